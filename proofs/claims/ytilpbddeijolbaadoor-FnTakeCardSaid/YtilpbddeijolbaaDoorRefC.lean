/- Contracts of functions on lists of numbers: marks. No conditions but those on lengths. -/
import Derived.Test.YtilpbddeijolbaaDoorRefB
import Derived.Test.YtilpbddeijolbaaDoorErrIs
namespace Go.Proofs.YtilpbddeijolbaaDoor
open Go.ChangeShapes Go.WideShapes Go.ChangeAt Go.RowKit
set_option linter.unusedVariables false
set_option linter.unusedSimpArgs false


def idx (es : List Int) (t k : Int) : List Int := (List.range k.toNat).filterMap fun i => if es.getD i 0 = t then some (i : Int) else none
def diffs (a b : List Int) (k : Int) : List (Int × Int × Int) := (List.range k.toNat).filterMap fun i => if a.getD i 0 = b.getD i 0 then none else some ((i : Int), a.getD i 0, b.getD i 0)
def hasI (t : Int) (es : List Int) : Bool := es.any fun e => decide (e = t)
def NoI (t k : Int) (es : List Int) : Prop := ∀ (i : Nat) e, (i : Int) < k → es[i]? = some e → e ≠ t
def freeL (t : Int) (es : List Int) : List Int := es.map fun e => if e = t then -1 else e
def Marks (es : List Int) (k : Int) : Prop := ∀ (i : Nat) e, es[i]? = some e → e = k + i
def MarksTo (es : List Int) (k j : Int) : Prop := ∀ (i : Nat) e, (i : Int) < j → es[i]? = some e → e = k + i
def MarksU (es : List (Int × Int × Int)) (k : Int) : Prop := ∀ (i : Nat) e, es[i]? = some e → e.1 = k + 3 * i ∧ e.2.1 = k + 3 * i + 1 ∧ e.2.2 = k + 3 * i + 2
def MarksUTo (es : List (Int × Int × Int)) (k j : Int) : Prop := ∀ (i : Nat) e, (i : Int) < j → es[i]? = some e → e.1 = k + 3 * i ∧ e.2.1 = k + 3 * i + 1 ∧ e.2.2 = k + 3 * i + 2
def FreeTo (t k : Int) (es1 es : List Int) : Prop := ∀ i : Nat, es1[i]? = if (i : Int) < k then (freeL t es)[i]? else es[i]?
def LVal (es : List Int) (t : Int) : Prop := (es.length = 4 ∧ okIn (-1) (11) es = true) ∧ (0 ≤ t ∧ t ≤ 11)
instance {es : List Int} {t : Int} : Decidable (LVal es t) := by unfold LVal; infer_instance
def LO (es : List Int) (t : Int) : List Int := if LVal es t then idx es t es.length else []
def LF (es : List Int) (t : Int) : List Int := if LVal es t then freeL t es else []
def RVal (es : List Int) : Prop := es.length = 4 ∧ okIn (-1) (990) es = true
instance {es : List Int} : Decidable (RVal es) := by unfold RVal; infer_instance
def RD (a b : List Int) : List (Int × Int × Int) := if RVal a ∧ RVal b then diffs a b 4 else []
def invU (l : List (Int × Int × Int)) : List (Int × Int × Int) := l.map fun u => (u.1, u.2.2, u.2.1)
section
variable {es es1 a b : List Int} {t k e e2 : Int}
theorem getD_of {i : Nat} (h : es[i]? = some e) : es.getD i 0 = e := by rw [List.getD_eq_getElem?_getD, h]; rfl
theorem range_step (h0 : 0 ≤ k) : List.range (k + 1).toNat = List.range k.toNat ++ [k.toNat] := by
  rw [show (k + 1).toNat = k.toNat + 1 by omega, List.range_succ]
theorem idx_zero : idx es t 0 = [] := rfl
theorem idx_eq (h0 : 0 ≤ k) (he : es[k.toNat]? = some e) (h : e = t) : idx es t (k + 1) = idx es t k ++ [k] := by
  unfold idx
  rw [range_step h0, List.filterMap_append]
  congr 1
  have hk : ((k.toNat : Nat) : Int) = k := Int.toNat_of_nonneg h0
  simp [he, h, hk]
theorem idx_ne (h0 : 0 ≤ k) (he : es[k.toNat]? = some e) (h : ¬ e = t) : idx es t (k + 1) = idx es t k := by
  unfold idx
  rw [range_step h0, List.filterMap_append]
  simp [he, h]
theorem diffs_zero : diffs a b 0 = [] := rfl
theorem diffs_ne (h0 : 0 ≤ k) (he : a[k.toNat]? = some e) (he2 : b[k.toNat]? = some e2) (h : ¬ e = e2) : diffs a b (k + 1) = diffs a b k ++ [(k, e, e2)] := by
  unfold diffs
  rw [range_step h0, List.filterMap_append]
  congr 1
  have hk : ((k.toNat : Nat) : Int) = k := Int.toNat_of_nonneg h0
  simp [he, he2, h, hk]
theorem diffs_eq (h0 : 0 ≤ k) (he : a[k.toNat]? = some e) (he2 : b[k.toNat]? = some e2) (h : e = e2) : diffs a b (k + 1) = diffs a b k := by
  unfold diffs
  rw [range_step h0, List.filterMap_append]
  simp [he, he2, h]
theorem noI_zero : NoI t 0 es := fun i e h => by omega
theorem noI_step (h : NoI t k es) (h0 : 0 ≤ k) (he : es[k.toNat]? = some e) (hx : ¬ e = t) : NoI t (k + 1) es := fun i e1 hi he1 => by
  by_cases hik : (i : Int) < k
  · exact h i e1 hik he1
  · have : i = k.toNat := by omega
    subst this
    rw [he] at he1; injection he1 with he1; subst he1
    exact hx
theorem hasI_not (h : NoI t k es) (hk : (es.length : Int) ≤ k) : hasI t es = false := by
  unfold hasI
  rw [List.any_eq_false]
  intro v hv
  obtain ⟨i, hi⟩ := List.getElem?_of_mem hv
  have := h i v (by have := (List.getElem?_eq_some_iff.1 hi).1; omega) hi
  simpa using this
theorem hasI_of {i : Nat} (he : es[i]? = some e) (hx : e = t) : hasI t es = true := by
  unfold hasI
  rw [List.any_eq_true]
  exact ⟨e, List.mem_of_getElem? he, by simpa using hx⟩
theorem take_step {α : Type} {l : List α} {e : α} (h0 : 0 ≤ k) (he : l[k.toNat]? = some e) : l.take (k + 1).toNat = l.take k.toNat ++ [e] := by
  rw [show (k + 1).toNat = k.toNat + 1 by omega, List.take_add_one, he]; rfl
theorem hasI_step (h0 : 0 ≤ k) (he : es[k.toNat]? = some e) : hasI t (es.take (k + 1).toNat) = (hasI t (es.take k.toNat) || decide (e = t)) := by
  unfold hasI
  rw [take_step h0 he, List.any_append]; simp
theorem freeL_step (h0 : 0 ≤ k) (he : es[k.toNat]? = some e) : freeL t (es.take (k + 1).toNat) = freeL t (es.take k.toNat) ++ [if e = t then -1 else e] := by
  unfold freeL
  rw [take_step h0 he, List.map_append]; rfl
theorem take_all {α : Type} {l : List α} (h : (l.length : Int) ≤ k) : l.take k.toNat = l := List.take_of_length_le (by omega)
theorem freeTo_zero : FreeTo t 0 es es := fun i => by rw [if_neg (by omega)]
theorem freeTo_get (h : FreeTo t k es1 es) (h0 : 0 ≤ k) : es1[k.toNat]? = es[k.toNat]? := by rw [h, if_neg (by omega)]
theorem freeTo_eq (h : FreeTo t k es1 es) (h0 : 0 ≤ k) (he : es1[k.toNat]? = some e) (hx : e = t) : FreeTo t (k + 1) (es1.set k.toNat (-1)) es := fun i => by
  by_cases hik : i = k.toNat
  · subst hik
    rw [List.getElem?_set_self (by have := (List.getElem?_eq_some_iff.1 he).1; omega), if_pos (by omega)]
    rw [freeTo_get h h0] at he
    unfold freeL
    rw [List.getElem?_map, he]; simp [hx]
  · rw [List.getElem?_set_ne (by omega), h]
    by_cases h1 : (i : Int) < k
    · rw [if_pos h1, if_pos (by omega)]
    · rw [if_neg h1, if_neg (by omega)]
theorem freeTo_ne (h : FreeTo t k es1 es) (h0 : 0 ≤ k) (he : es1[k.toNat]? = some e) (hx : ¬ e = t) : FreeTo t (k + 1) es1 es := fun i => by
  by_cases hik : i = k.toNat
  · subst hik
    rw [if_pos (by omega), he]
    rw [freeTo_get h h0] at he
    unfold freeL
    rw [List.getElem?_map, he]; simp [hx]
  · rw [h]
    by_cases h1 : (i : Int) < k
    · rw [if_pos h1, if_pos (by omega)]
    · rw [if_neg h1, if_neg (by omega)]
theorem freeL_len : (freeL t es).length = es.length := by unfold freeL; simp
theorem freeTo_all (h : FreeTo t k es1 es) (hk : (es.length : Int) ≤ k) : es1 = freeL t es := by
  apply List.ext_getElem?
  intro i
  rw [h]
  by_cases hi : (i : Int) < k
  · rw [if_pos hi]
  · rw [if_neg hi, List.getElem?_eq_none (by omega), List.getElem?_eq_none (by rw [freeL_len]; omega)]
theorem marksTo_zero : MarksTo es k 0 := fun i e h => by omega
theorem marksTo_set {j : Int} (h : MarksTo es k j) (h0 : 0 ≤ j) (hl : j < es.length) : MarksTo (es.set j.toNat (k + j)) k (j + 1) := fun i e hi he => by
  by_cases hij : i = j.toNat
  · subst hij
    rw [List.getElem?_set_self (by omega)] at he
    injection he with he
    omega
  · rw [List.getElem?_set_ne (by omega)] at he
    exact h i e (by omega) he
theorem marks_of {j : Int} (h : MarksTo es k j) (hl : (es.length : Int) ≤ j) : Marks es k := fun i e he => h i e (by have := (List.getElem?_eq_some_iff.1 he).1; omega) he
theorem LO_ok (h : LVal es t) : LO es t = idx es t es.length := if_pos h
theorem LO_bad (h : ¬ LVal es t) : LO es t = [] := if_neg h
theorem LF_ok (h : LVal es t) : LF es t = freeL t es := if_pos h
theorem LF_bad (h : ¬ LVal es t) : LF es t = [] := if_neg h
theorem RD_ok (h : RVal a ∧ RVal b) : RD a b = diffs a b 4 := if_pos h
theorem RD_bad (h : ¬ (RVal a ∧ RVal b)) : RD a b = [] := if_neg h
theorem idx_len : ((idx es t k).length : Int) ≤ k ∨ k < 0 ∧ (idx es t k).length = 0 := by
  have := List.length_filterMap_le (fun i : Nat => if es.getD i 0 = t then some (i : Int) else none) (List.range k.toNat)
  unfold idx
  rw [List.length_range] at this
  omega
theorem LO_exit {L : List Int} (h : 0 < k → LVal es t) (hk : L = idx es t k) (h2 : LVal es t → (es.length : Int) ≤ k) (h3 : k ≤ es.length) (h0 : 0 ≤ k) : L = LO es t := by
  by_cases hV : LVal es t
  · rw [LO_ok hV, hk]; congr 1; have := h2 hV; omega
  · rw [LO_bad hV, hk]
    have : k = 0 := by
      by_cases hk0 : 0 < k
      · exact absurd (h hk0) hV
      · omega
    rw [this]; rfl
theorem RD_exit {L : List (Int × Int × Int)} (h : 0 < k → RVal a ∧ RVal b) (hk : L = diffs a b k) (h2 : RVal a ∧ RVal b → 4 ≤ k) (h3 : k ≤ 4) (h0 : 0 ≤ k) : L = RD a b := by
  by_cases hV : RVal a ∧ RVal b
  · rw [RD_ok hV, hk]; congr 1; have := h2 hV; omega
  · rw [RD_bad hV, hk]
    have : k = 0 := by
      by_cases hk0 : 0 < k
      · exact absurd (h hk0) hV
      · omega
    rw [this]; rfl
theorem LO_len : ((LO es t).length : Int) ≤ 4 := by
  unfold LO
  split
  · rename_i h
    have := idx_len (es := es) (t := t) (k := es.length)
    have := h.1.1
    omega
  · simp
theorem LF_len : ((LF es t).length : Int) ≤ 4 := by
  unfold LF
  split
  · rename_i h
    rw [freeL_len]; have := h.1.1; omega
  · simp
theorem RD_len : ((RD a b).length : Int) ≤ 4 := by
  unfold RD
  split
  · have := List.length_filterMap_le (fun i : Nat => if a.getD i 0 = b.getD i 0 then none else some ((i : Int), a.getD i 0, b.getD i 0)) (List.range (4 : Int).toNat)
    rw [List.length_range] at this
    unfold diffs
    omega
  · simp
end
section
variable {es : List (Int × Int × Int)} {k j : Int}
theorem marksUTo_zero : MarksUTo es k 0 := fun i e h => by omega
theorem marksUTo_set {u : Int × Int × Int} (h : MarksUTo es k j) (h0 : 0 ≤ j) (hl : j < es.length) (h1 : u.1 = k + 3 * j) (h2 : u.2.1 = k + 3 * j + 1) (h3 : u.2.2 = k + 3 * j + 2) : MarksUTo (es.set j.toNat u) k (j + 1) := fun i e hi he => by
  by_cases hij : i = j.toNat
  · subst hij
    rw [List.getElem?_set_self (by omega)] at he
    injection he with he
    subst he
    omega
  · rw [List.getElem?_set_ne (by omega)] at he
    exact h i e (by omega) he
theorem marksU_of (h : MarksUTo es k j) (hl : (es.length : Int) ≤ j) : MarksU es k := fun i e he => h i e (by have := (List.getElem?_eq_some_iff.1 he).1; omega) he
theorem set_set_set {α : Type} {l : List α} {i : Nat} {x y z : α} : ((l.set i x).set i y).set i z = l.set i z := by rw [List.set_set, List.set_set]
end

theorem slice_row {w : World} {P : Option Addr} {E sz n c : Nat} {xs : List Value} (h : w.ownsRow 0 E sz (.slice P n c) n xs) : (P = none ∧ n = 0 ∧ c = 0) ∨ ∃ b, P = some ⟨b, 0, none⟩ := by
  rcases h.2 with ⟨hv, hn⟩ | ⟨g, cap, cur, hv, _⟩
  · injection hv with h1 h2 h3
    exact .inl ⟨h1, hn, h3⟩
  · injection hv with h1 h2 h3
    exact .inr ⟨g, h1⟩

theorem upsB_up {l : List (Int × Int × Int)} {e : Int × Int × Int} (h : upsB l = true) {i : Nat} (he : l[i]? = some e) : upB e = true := (upsB_iff.1 h i e (by have := (List.getElem?_eq_some_iff.1 he).1; omega) he).1
def FreeAll (es : List Int) (us : List (Int × Int × Int)) : Bool := us.all fun u => decide (es.getD u.1.toNat 0 = -1)
def takeL (t : Int) (es : List Int) (us : List (Int × Int × Int)) : List Int := us.foldl (fun es u => es.set u.1.toNat t) es
def FAllTo (k : Int) (es : List Int) (us : List (Int × Int × Int)) : Prop := ∀ (i : Nat) u, (i : Int) < k → us[i]? = some u → es.getD u.1.toNat 0 = -1
def l12L (es : List Int) (t : Int) (us : List (Int × Int × Int)) : List Int := if FreeAll es us = true then takeL t es us else es
def TVal (es : List Int) (t : Int) (us : List (Int × Int × Int)) : Prop := ((es.length = 4 ∧ okIn (-1) (11) es = true) ∧ (0 ≤ t ∧ t ≤ 11)) ∧ (0 < us.length ∧ upsB us = true)
instance {es : List Int} {t : Int} {us : List (Int × Int × Int)} : Decidable (TVal es t us) := by unfold TVal; infer_instance
def LT (es : List Int) (t : Int) (us : List (Int × Int × Int)) : List Int := if TVal es t us then l12L es t us else []
section
variable {es : List Int} {us : List (Int × Int × Int)} {k t e : Int} {u : Int × Int × Int}
theorem fall_zero : FAllTo 0 es us := fun i u h => by omega
theorem fall_step (h : FAllTo k es us) (h0 : 0 ≤ k) (he : us[k.toNat]? = some u) (hx : es.getD u.1.toNat 0 = -1) : FAllTo (k + 1) es us := fun i u1 hi he1 => by
  by_cases hik : (i : Int) < k
  · exact h i u1 hik he1
  · have : i = k.toNat := by omega
    subst this
    rw [he] at he1; injection he1 with he1; subst he1
    exact hx
theorem fall_of (h : FAllTo k es us) (hk : (us.length : Int) ≤ k) : FreeAll es us = true := by
  unfold FreeAll
  rw [List.all_eq_true]
  intro x hx
  obtain ⟨i, hi⟩ := List.getElem?_of_mem hx
  simpa using h i x (by have := (List.getElem?_eq_some_iff.1 hi).1; omega) hi
theorem fall_get {i : Nat} (h : FreeAll es us = true) (hu : us[i]? = some u) : es.getD u.1.toNat 0 = -1 := by
  unfold FreeAll at h
  rw [List.all_eq_true] at h
  simpa using h u (List.mem_of_getElem? hu)
theorem fall_not {i : Nat} (hu : us[i]? = some u) (he : es[u.1.toNat]? = some e) (hx : ¬ e = -1) : FreeAll es us = false := Bool.eq_false_iff.2 fun h => hx (by rw [← getD_of he]; exact fall_get h hu)
theorem takeL_len : ∀ (us : List (Int × Int × Int)) (es : List Int), (takeL t es us).length = es.length
  | [], es => rfl
  | u :: us, es => by
    show (takeL t (es.set u.1.toNat t) us).length = _
    rw [takeL_len us]; simp
theorem takeL_step (h0 : 0 ≤ k) (he : us[k.toNat]? = some u) : takeL t es (us.take (k + 1).toNat) = (takeL t es (us.take k.toNat)).set u.1.toNat t := by
  rw [take_step h0 he]; unfold takeL; rw [List.foldl_append]; rfl
theorem l12L_free (h : FreeAll es us = true) : l12L es t us = takeL t es us := if_pos h
theorem l12L_busy (h : FreeAll es us = false) : l12L es t us = es := if_neg (by rw [h]; decide)
theorem l12L_len : (l12L es t us).length = es.length := by unfold l12L; split; exact takeL_len _ _; rfl
theorem LT_ok (h : TVal es t us) : LT es t us = l12L es t us := if_pos h
theorem LT_bad (h : ¬ TVal es t us) : LT es t us = [] := if_neg h
end
section
variable {P : Program} {n : Nat} {Fr : List (Nat × Value)} {a : Act} {w w0 : World} {X : List Nat} {Γ : List Res} {v : Value}
theorem ret3 {fn : Func} {R : Ending → World → Prop} {t s r : Nat} {u x : Value} (F : Has n Fr a) (hr : fn.results = #[.tmp t, .tmp s, .tmp r]) (hv : look Fr t = some v) (hu : look Fr s = some u) (hx : look Fr r = some x) (h : R (.returned (.tuple #[v, u, x])) w) : bodyPost P fn R .ret a w := by
  refine ⟨F.defers, _, ?_, h⟩
  have h1 := F.get t v hv
  have h2 := F.get s u hu
  have h3 := F.get r x hx
  simp [results, hr, Array.getD_eq_getD_getElem?, h1, h2, h3]
theorem Own.apartOldR {α : Type} {enc : α → List Value} {sz : Nat} {p : Option Addr} {es : List α} (O : Own w0 X Γ w) (h : Arr w0 enc sz p es) (h0 : 0 < es.length) (j : Nat) {E sz2 q c gb : Nat} {xs : List Value} (h2 : Γ[j]? = some (.row E sz2 (.slice (some ⟨gb, 0, none⟩) q c) q xs)) (hx : gb ∉ X) : Apart p gb := fun b o e hb => by
  subst e; subst hb
  have := h.lt h0
  rcases O.range _ (List.mem_of_getElem? h2) b rfl with h | h
  · exact hx h
  · omega
theorem Own.rowNe (O : Own w0 X Γ w) (i : Nat) {E sz q c b g : Nat} {xs : List Value} (h : Γ[i]? = some (.row E sz (.slice (some ⟨b, 0, none⟩) q c) q xs)) (hX : b ∉ X) (h0 : g < w0.heap.size) : ¬ g = b := fun e => by
  subst e
  rcases O.range _ (List.mem_of_getElem? h) g rfl with h | h
  · exact hX h
  · omega
end
set_option maxRecDepth 100000 in
/-- laws.markIntS -/
theorem markIntS_nil (k : Int) (w0 : World) (h0 : 0 ≤ k) (h1 : k ≤ 100000000) :
    Calls Tryd.prog 13 #[.slice none 0 0, .int .i64 (k)] w0 fun e w => e = .returned (.int .i64 (k)) ∧ Own w0 [] [] w := by
  have O := Own.start w0
  refine enterO (n := 19) Tryd.func13 rfl rfl rfl O fun a w F O => ?_
  refine c_seq fun K1 hK1 => c_region (sp F (p_assign rfl) rfl rfl fun a F => c_nil (hK1 _ _ (?_)))
  try clear hK1 K1
  refine c_seq fun K2 hK2 => c_seq fun K3 hK3 => c_region (sp F (p_assign rfl) rfl rfl fun a F => c_nil (hK3 _ _ (?_)))
  try clear hK3 K3
  refine wp_block (?_)
  refine c_loop (fun mm a w => mm = 0 ∧ Has 19 [(0, .slice none 0 0), (4, .int .i64 (0)), (5, .int .i64 (0)), (1, .int .i64 (k))] a ∧ Own w0 [] [] w) ?_ ?_
  · have F : Has 19 [(0, .slice none 0 0), (4, .int .i64 (0)), (5, .int .i64 (0)), (1, .int .i64 (k))] a := F.pick ⟨rfl, rfl, rfl, rfl, trivial⟩
    exact ⟨0, rfl, F, O⟩
  · rintro mm a w ⟨rfl, F, O⟩
    refine c_seq fun K4 hK4 => c_seq fun K5 hK5 => c_region (sp F (p_move rfl) rfl rfl fun a F => sp F (p_move rfl) rfl rfl fun a F => sp F (p_len_l rfl Tryd.underlying22) rfl rfl fun a F => sp F (p_lss rfl rfl) rfl rfl fun a F => ?_)
    have c9 : ¬ (0 < (0 : Int)) := by omega
    have F := F.setB (d := 9) rfl (decide_eq_false c9)
    refine c_nil (hK5 _ _ (?_))
    try clear hK5 K5
    refine c_iff F rfl (wp_exit (e_then (e_then (e_here (hK2 _ _ (?_))))))
    try clear hK2 K2
    refine c_seq fun K6 hK6 => c_region (sp F (p_move rfl) rfl rfl fun a F => sp F (p_assign rfl) rfl rfl fun a F => c_nil (hK6 _ _ (?_)))
    try clear hK6 K6
    refine wp_ret (ret1 F rfl rfl (?_))
    exact ⟨rfl, O⟩

set_option maxRecDepth 100000 in
/-- laws.markIntS -/
theorem markIntS_some (b : Nat) (n : Nat) (c : Nat) (es : List (Int)) (k : Int) (w0 : World) (hn : (n : Int) = es.length) (hb : (n : Int) ≤ 1048600) (h0 : 0 ≤ k) (h1 : k ≤ 100000000) (O : Own w0 [b] [.row 3 1 (.slice (some ⟨b, 0, none⟩) n c) n (es.flatMap encInt)] w0) :
    Calls Tryd.prog 13 #[.slice (some ⟨b, 0, none⟩) n c, .int .i64 (k)] w0 fun e w => ∃ (es1 : List (Int)), e = .returned (.int .i64 (k + (n : Int))) ∧ ((n : Int) = es1.length) ∧ (Marks es1 k) ∧ Own w0 [b] [.row 3 1 (.slice (some ⟨b, 0, none⟩) n c) n (es1.flatMap encInt)] w := by
  refine enterO (n := 19) Tryd.func13 rfl rfl rfl O fun a w F O => ?_
  refine c_seq fun K1 hK1 => c_region (sp F (p_assign rfl) rfl rfl fun a F => c_nil (hK1 _ _ (?_)))
  try clear hK1 K1
  refine c_seq fun K2 hK2 => c_seq fun K3 hK3 => c_region (sp F (p_assign rfl) rfl rfl fun a F => c_nil (hK3 _ _ (?_)))
  try clear hK3 K3
  refine wp_block (?_)
  refine c_loop (fun mm a w => ∃ (i : Int), ∃ (es1 : List (Int)), mm = ((n : Int) - i).toNat ∧ Has 19 [(0, .slice (some ⟨b, 0, none⟩) n c), (4, .int .i64 (0)), (5, .int .i64 (i)), (1, .int .i64 (k + i))] a ∧ Own w0 [b] [.row 3 1 (.slice (some ⟨b, 0, none⟩) n c) n (es1.flatMap encInt)] w ∧ (0 ≤ i) ∧ (i ≤ n) ∧ ((es1.length : Int) = n) ∧ (MarksTo es1 k i)) ?_ ?_
  · have F := F.setV (d := 1) rfl (show Value.int .i64 (k) = .int .i64 (k + 0) from by first | rfl | exact vint (by omega) | exact vint (by simp; done) | exact vsl (by omega) | (simp; done))
    have F : Has 19 [(0, .slice (some ⟨b, 0, none⟩) n c), (4, .int .i64 (0)), (5, .int .i64 (0)), (1, .int .i64 (k + 0))] a := F.pick ⟨rfl, rfl, rfl, rfl, trivial⟩
    exact ⟨((n : Int) - 0).toNat, 0, es, rfl, F, O, by first | assumption | omega, by first | assumption | omega, by first | assumption | omega, by exact marksTo_zero⟩
  · rintro mm a w ⟨i, es1, rfl, F, O, hi0a, hi0b, hi0c, hi0d⟩
    refine c_seq fun K4 hK4 => c_seq fun K5 hK5 => c_region (sp F (p_move rfl) rfl rfl fun a F => sp F (p_move rfl) rfl rfl fun a F => sp F (p_len_l rfl Tryd.underlying22) rfl rfl fun a F => sp F (p_lss rfl rfl) rfl rfl fun a F => c_nil (hK5 _ _ (?_)))
    try clear hK5 K5
    by_cases c9 : i < (n : Int)
    · have F := F.setB (d := 9) rfl (decide_eq_true c9)
      refine c_ift F rfl (wp_skip (hK4 _ _ (?_)))
      try clear hK4 K4
      refine c_seq fun K6 hK6 => wp_block (c_seq fun K7 hK7 => c_region (sp F (p_move rfl) rfl rfl fun a F => sp F (p_move rfl) rfl rfl fun a F => sp F (p_move rfl) rfl rfl fun a F => ?_))
      obtain ⟨e15, he15⟩ := get_some (l := es1) (i := i) (by omega) (by first | omega | (simp; omega))
      refine sp F (p_iaddr rfl rfl Tryd.underlying22 Tryd.sz_3 (by omega) (by omega)) rfl rfl fun a F => so F rfl (o_storeRow F O rfl rfl Tryd.sz_3 rfl rfl 0 rfl (by rw [flat_len encInt_len]; first | omega | (simp; omega)) fun w O => ?_)
      have hst : (es1.flatMap encInt).set (0 + (i : Int).toNat * 1) (.int .i64 (k + i)) = (es1.set (i : Int).toNat (k + i)).flatMap encInt := flat_set encInt_len he15 (j := 0) rfl (by decide)
      have O := O.setR 0 rfl (congrArg (Res.row 3 1 (.slice (some ⟨b, 0, none⟩) n c) n) hst)
      have O : Own w0 [b] [.row 3 1 (.slice (some ⟨b, 0, none⟩) n c) n ((es1.set (i : Int).toNat (k + i)).flatMap encInt)] w := O
      refine c_nil (hK7 _ _ (?_))
      try clear hK7 K7
      refine c_region (sp F (p_move rfl) rfl rfl fun a F => sp F (p_add rfl rfl (by omega) (by omega)) rfl rfl fun a F => sp F (p_assign rfl) rfl rfl fun a F => c_nil (hK6 _ _ (?_)))
      try clear hK6 K6
      refine c_region (sp F (p_move rfl) rfl rfl fun a F => sp F (p_add rfl rfl (by omega) (by omega)) rfl rfl fun a F => sp F (p_assign rfl) rfl rfl fun a F => c_nil (?_))
      have F := F.setV (d := 1) rfl (show Value.int .i64 ((k + i) + 1) = .int .i64 (k + (i + 1)) from by first | rfl | exact vint (by omega) | exact vint (by simp; done) | exact vsl (by omega) | (simp; done))
      have F : Has 19 [(0, .slice (some ⟨b, 0, none⟩) n c), (4, .int .i64 (0)), (5, .int .i64 (i + 1)), (1, .int .i64 (k + (i + 1)))] a := F.pick ⟨rfl, rfl, rfl, rfl, trivial⟩
      exact ⟨((n : Int) - (i + 1)).toNat, by omega, (i + 1), (es1.set (i : Int).toNat (k + i)), rfl, F, O, by first | assumption | omega, by first | assumption | omega, by simp; omega, by exact marksTo_set hi0d hi0a (by omega)⟩
    · have F := F.setB (d := 9) rfl (decide_eq_false c9)
      refine c_iff F rfl (wp_exit (e_then (e_then (e_here (hK2 _ _ (?_))))))
      try clear hK2 K2
      refine c_seq fun K6 hK6 => c_region (sp F (p_move rfl) rfl rfl fun a F => sp F (p_assign rfl) rfl rfl fun a F => c_nil (hK6 _ _ (?_)))
      try clear hK6 K6
      refine wp_ret (ret1 F rfl rfl (?_))
      exact ⟨es1, congrArg Ending.returned (show Value.int .i64 (k + i) = .int .i64 (k + (n : Int)) from by first | exact vint (by omega) | exact vint (by simp; done)), by first | assumption | omega, by exact marks_of hi0d (by omega), O⟩


theorem markIntS (P : Option Addr) (n c : Nat) (es : List (Int)) (k : Int) (w0 : World) (hn : (n : Int) = es.length) (hb : (n : Int) ≤ 1048600) (h0 : 0 ≤ k) (h1 : k ≤ 100000000) (O : Own w0 (Value.slice P n c).ownBlock.toList [.row 3 1 (.slice P n c) n (es.flatMap encInt)] w0) :
    Calls Tryd.prog 13 #[.slice P n c, .int .i64 k] w0 fun e w => ∃ (es1 : List (Int)), e = .returned (.int .i64 (k + (n : Int))) ∧ ((n : Int) = es1.length) ∧ (Marks es1 k) ∧ Own w0 (Value.slice P n c).ownBlock.toList [.row 3 1 (.slice P n c) n (es1.flatMap encInt)] w := by
  have hr : w0.ownsRow 0 3 1 (.slice P n c) n (es.flatMap encInt) := O.has (i := 0) rfl
  rcases slice_row hr with ⟨rfl, rfl, rfl⟩ | ⟨b, rfl⟩
  · refine (markIntS_nil k w0 h0 h1).mono fun e w h => ?_
    refine ⟨[], h.1.trans (by simp), rfl, fun i e he => by simp at he, ?_⟩
    have O2 := h.2.addNil 3 1
    exact O2
  · exact markIntS_some b n c es k w0 hn hb h0 h1 O

set_option maxRecDepth 100000 in
/-- laws.heldIntS -/
theorem heldIntS_ok (A : Option Addr) (n : Nat) (c : Nat) (es : List (Int)) (k : Int) (w0 : World) (hA : Arr w0 encInt 1 A es) (hn : (n : Int) = es.length) (hb : (n : Int) ≤ 1048600) (hm : Marks es k) (h0 : 0 ≤ k) (h1 : k ≤ 100000000) :
    Calls Tryd.prog 15 #[.slice A n c, .int .i64 (k)] w0 fun e w => e = .returned (.int .i64 (k + (n : Int))) ∧ Own w0 [] [] w := by
  have O := Own.start w0
  refine enterO (n := 21) Tryd.func15 rfl rfl rfl O fun a w F O => ?_
  refine c_seq fun K1 hK1 => c_region (sp F (p_assign rfl) rfl rfl fun a F => c_nil (hK1 _ _ (?_)))
  try clear hK1 K1
  refine c_seq fun K2 hK2 => c_seq fun K3 hK3 => c_region (sp F (p_assign rfl) rfl rfl fun a F => c_nil (hK3 _ _ (?_)))
  try clear hK3 K3
  refine wp_block (?_)
  refine c_loop (fun mm a w => ∃ (i : Int), mm = ((n : Int) - i).toNat ∧ Has 21 [(0, .slice A n c), (5, .int .i64 (i)), (1, .int .i64 (k + i))] a ∧ Own w0 [] [] w ∧ (0 ≤ i) ∧ (i ≤ n)) ?_ ?_
  · have F := F.setV (d := 1) rfl (show Value.int .i64 (k) = .int .i64 (k + 0) from by first | rfl | exact vint (by omega) | exact vint (by simp; done) | exact vsl (by omega) | (simp; done))
    have F : Has 21 [(0, .slice A n c), (5, .int .i64 (0)), (1, .int .i64 (k + 0))] a := F.pick ⟨rfl, rfl, rfl, trivial⟩
    exact ⟨((n : Int) - 0).toNat, 0, rfl, F, O, by first | assumption | omega, by first | assumption | omega⟩
  · rintro mm a w ⟨i, rfl, F, O, hi0a, hi0b⟩
    refine c_seq fun K4 hK4 => c_seq fun K5 hK5 => c_region (sp F (p_move rfl) rfl rfl fun a F => sp F (p_move rfl) rfl rfl fun a F => sp F (p_len_l rfl Tryd.underlying22) rfl rfl fun a F => sp F (p_lss rfl rfl) rfl rfl fun a F => c_nil (hK5 _ _ (?_)))
    try clear hK5 K5
    by_cases c9 : i < (n : Int)
    · have F := F.setB (d := 9) rfl (decide_eq_true c9)
      refine c_ift F rfl (wp_skip (hK4 _ _ (?_)))
      try clear hK4 K4
      refine c_seq fun K6 hK6 => wp_block (c_seq fun K7 hK7 => c_seq fun K8 hK8 => c_region (sp F (p_move rfl) rfl rfl fun a F => sp F (p_move rfl) rfl rfl fun a F => ?_))
      obtain ⟨b14, o14, hp14, hb14, hc14⟩ := Arr.out hA (by omega)
      have hA14 := hA; rw [hp14] at hA14 F
      obtain ⟨e14, he14⟩ := get_some (l := es) (i := i) (by omega) (by first | omega | (simp; omega))
      refine sp F (p_iaddr rfl rfl Tryd.underlying22 Tryd.sz_3 (by omega) (by omega)) rfl rfl fun a F => sp F (p_load rfl Tryd.agg_3 (fun _ h => (ld1 (((O.old hb14 (by simp)).trans (hc14 _ _ he14 0 _ rfl))) h))) rfl rfl fun a F => sp F (p_move rfl) rfl rfl fun a F => sp F (p_neq rfl rfl) rfl rfl fun a F => ?_
      have c17 : e14 = (k + i) := by have := hm _ _ he14; omega
      have F := F.setB (d := 17) rfl (decide_eq_false (fun h => h c17))
      refine c_nil (hK8 _ _ (?_))
      try clear hK8 K8
      refine c_iff F rfl (wp_skip (hK7 _ _ (?_)))
      try clear hK7 K7
      refine c_region (sp F (p_move rfl) rfl rfl fun a F => sp F (p_add rfl rfl (by omega) (by omega)) rfl rfl fun a F => sp F (p_assign rfl) rfl rfl fun a F => c_nil (hK6 _ _ (?_)))
      try clear hK6 K6
      refine c_region (sp F (p_move rfl) rfl rfl fun a F => sp F (p_add rfl rfl (by omega) (by omega)) rfl rfl fun a F => sp F (p_assign rfl) rfl rfl fun a F => c_nil (?_))
      try rw [← hp14] at F
      try rw [← hp14] at O
      have F := F.setV (d := 1) rfl (show Value.int .i64 ((k + i) + 1) = .int .i64 (k + (i + 1)) from by first | rfl | exact vint (by omega) | exact vint (by simp; done) | exact vsl (by omega) | (simp; done))
      have F : Has 21 [(0, .slice A n c), (5, .int .i64 (i + 1)), (1, .int .i64 (k + (i + 1)))] a := F.pick ⟨rfl, rfl, rfl, trivial⟩
      exact ⟨((n : Int) - (i + 1)).toNat, by omega, (i + 1), rfl, F, O, by first | assumption | omega, by first | assumption | omega⟩
    · have F := F.setB (d := 9) rfl (decide_eq_false c9)
      refine c_iff F rfl (wp_exit (e_then (e_then (e_here (hK2 _ _ (?_))))))
      try clear hK2 K2
      refine c_seq fun K6 hK6 => c_region (sp F (p_move rfl) rfl rfl fun a F => sp F (p_assign rfl) rfl rfl fun a F => c_nil (hK6 _ _ (?_)))
      try clear hK6 K6
      refine wp_ret (ret1 F rfl rfl (?_))
      exact ⟨congrArg Ending.returned (show Value.int .i64 (k + i) = .int .i64 (k + (n : Int)) from by first | exact vint (by omega) | exact vint (by simp; done)), O⟩

set_option maxRecDepth 100000 in
/-- laws.markUpdateS -/
theorem markUpdateS_nil (k : Int) (w0 : World) (h0 : 0 ≤ k) (h1 : k ≤ 100000000) :
    Calls Tryd.prog 14 #[.slice none 0 0, .int .i64 (k)] w0 fun e w => e = .returned (.int .i64 (k)) ∧ Own w0 [] [] w := by
  have O := Own.start w0
  refine enterO (n := 34) Tryd.func14 rfl rfl rfl O fun a w F O => ?_
  refine c_seq fun K1 hK1 => c_region (sp F (p_assign rfl) rfl rfl fun a F => c_nil (hK1 _ _ (?_)))
  try clear hK1 K1
  refine c_seq fun K2 hK2 => c_seq fun K3 hK3 => c_region (sp F (p_assign rfl) rfl rfl fun a F => c_nil (hK3 _ _ (?_)))
  try clear hK3 K3
  refine wp_block (?_)
  refine c_loop (fun mm a w => mm = 0 ∧ Has 34 [(0, .slice none 0 0), (4, .int .i64 (0)), (5, .int .i64 (0)), (1, .int .i64 (k))] a ∧ Own w0 [] [] w) ?_ ?_
  · have F : Has 34 [(0, .slice none 0 0), (4, .int .i64 (0)), (5, .int .i64 (0)), (1, .int .i64 (k))] a := F.pick ⟨rfl, rfl, rfl, rfl, trivial⟩
    exact ⟨0, rfl, F, O⟩
  · rintro mm a w ⟨rfl, F, O⟩
    refine c_seq fun K4 hK4 => c_seq fun K5 hK5 => c_region (sp F (p_move rfl) rfl rfl fun a F => sp F (p_move rfl) rfl rfl fun a F => sp F (p_len_l rfl Tryd.underlying28) rfl rfl fun a F => sp F (p_lss rfl rfl) rfl rfl fun a F => ?_)
    have c9 : ¬ (0 < (0 : Int)) := by omega
    have F := F.setB (d := 9) rfl (decide_eq_false c9)
    refine c_nil (hK5 _ _ (?_))
    try clear hK5 K5
    refine c_iff F rfl (wp_exit (e_then (e_then (e_here (hK2 _ _ (?_))))))
    try clear hK2 K2
    refine c_seq fun K6 hK6 => c_region (sp F (p_move rfl) rfl rfl fun a F => sp F (p_assign rfl) rfl rfl fun a F => c_nil (hK6 _ _ (?_)))
    try clear hK6 K6
    refine wp_ret (ret1 F rfl rfl (?_))
    exact ⟨rfl, O⟩

set_option maxRecDepth 100000 in
/-- laws.markUpdateS -/
theorem markUpdateS_some (b : Nat) (n : Nat) (c : Nat) (es : List (Int × Int × Int)) (k : Int) (w0 : World) (hn : (n : Int) = es.length) (hb : (n : Int) ≤ 1048600) (h0 : 0 ≤ k) (h1 : k ≤ 100000000) (O : Own w0 [b] [.row 39 3 (.slice (some ⟨b, 0, none⟩) n c) n (es.flatMap encUp)] w0) :
    Calls Tryd.prog 14 #[.slice (some ⟨b, 0, none⟩) n c, .int .i64 (k)] w0 fun e w => ∃ (es1 : List (Int × Int × Int)), e = .returned (.int .i64 (k + 3 * (n : Int))) ∧ ((n : Int) = es1.length) ∧ (MarksU es1 k) ∧ Own w0 [b] [.row 39 3 (.slice (some ⟨b, 0, none⟩) n c) n (es1.flatMap encUp)] w := by
  refine enterO (n := 34) Tryd.func14 rfl rfl rfl O fun a w F O => ?_
  refine c_seq fun K1 hK1 => c_region (sp F (p_assign rfl) rfl rfl fun a F => c_nil (hK1 _ _ (?_)))
  try clear hK1 K1
  refine c_seq fun K2 hK2 => c_seq fun K3 hK3 => c_region (sp F (p_assign rfl) rfl rfl fun a F => c_nil (hK3 _ _ (?_)))
  try clear hK3 K3
  refine wp_block (?_)
  refine c_loop (fun mm a w => ∃ (i : Int), ∃ (es1 : List (Int × Int × Int)), mm = ((n : Int) - i).toNat ∧ Has 34 [(0, .slice (some ⟨b, 0, none⟩) n c), (4, .int .i64 (0)), (5, .int .i64 (i)), (1, .int .i64 (k + 3 * i))] a ∧ Own w0 [b] [.row 39 3 (.slice (some ⟨b, 0, none⟩) n c) n (es1.flatMap encUp)] w ∧ (0 ≤ i) ∧ (i ≤ n) ∧ ((es1.length : Int) = n) ∧ (MarksUTo es1 k i)) ?_ ?_
  · have F := F.setV (d := 1) rfl (show Value.int .i64 (k) = .int .i64 (k + 3 * 0) from by first | rfl | exact vint (by omega) | exact vint (by simp; done) | exact vsl (by omega) | (simp; done))
    have F : Has 34 [(0, .slice (some ⟨b, 0, none⟩) n c), (4, .int .i64 (0)), (5, .int .i64 (0)), (1, .int .i64 (k + 3 * 0))] a := F.pick ⟨rfl, rfl, rfl, rfl, trivial⟩
    exact ⟨((n : Int) - 0).toNat, 0, es, rfl, F, O, by first | assumption | omega, by first | assumption | omega, by first | assumption | omega, by exact marksUTo_zero⟩
  · rintro mm a w ⟨i, es1, rfl, F, O, hi0a, hi0b, hi0c, hi0d⟩
    refine c_seq fun K4 hK4 => c_seq fun K5 hK5 => c_region (sp F (p_move rfl) rfl rfl fun a F => sp F (p_move rfl) rfl rfl fun a F => sp F (p_len_l rfl Tryd.underlying28) rfl rfl fun a F => sp F (p_lss rfl rfl) rfl rfl fun a F => c_nil (hK5 _ _ (?_)))
    try clear hK5 K5
    by_cases c9 : i < (n : Int)
    · have F := F.setB (d := 9) rfl (decide_eq_true c9)
      refine c_ift F rfl (wp_skip (hK4 _ _ (?_)))
      try clear hK4 K4
      refine c_seq fun K6 hK6 => wp_block (c_seq fun K7 hK7 => c_region (sp F (p_move rfl) rfl rfl fun a F => sp F (p_move rfl) rfl rfl fun a F => sp F (p_move rfl) rfl rfl fun a F => ?_))
      obtain ⟨e15, he15⟩ := get_some (l := es1) (i := i) (by omega) (by first | omega | (simp; omega))
      refine sp F (p_iaddr rfl rfl Tryd.underlying28 Tryd.sz_39 (by omega) (by omega)) rfl rfl fun a F => sp F (p_faddr rfl Tryd.foff_39_0) rfl rfl fun a F => so F rfl (o_storeRow F O rfl rfl Tryd.sz_3 rfl rfl 0 rfl (by rw [flat_len encUp_len]; first | omega | (simp; omega)) fun w O => ?_)
      have hst : (es1.flatMap encUp).set (0 + (i : Int).toNat * 3) (.int .i64 (k + 3 * i)) = (es1.set (i : Int).toNat (k + 3 * i, e15.2.1, e15.2.2)).flatMap encUp := flat_set encUp_len he15 (j := 0) rfl (by decide)
      have O := O.setR 0 rfl (congrArg (Res.row 39 3 (.slice (some ⟨b, 0, none⟩) n c) n) hst)
      have O : Own w0 [b] [.row 39 3 (.slice (some ⟨b, 0, none⟩) n c) n ((es1.set (i : Int).toNat (k + 3 * i, e15.2.1, e15.2.2)).flatMap encUp)] w := O
      refine c_nil (hK7 _ _ (?_))
      try clear hK7 K7
      refine c_seq fun K8 hK8 => c_region (sp F (p_move rfl) rfl rfl fun a F => sp F (p_add rfl rfl (by omega) (by omega)) rfl rfl fun a F => sp F (p_assign rfl) rfl rfl fun a F => c_nil (hK8 _ _ (?_)))
      try clear hK8 K8
      refine c_seq fun K9 hK9 => c_region (sp F (p_move rfl) rfl rfl fun a F => sp F (p_move rfl) rfl rfl fun a F => sp F (p_move rfl) rfl rfl fun a F => ?_)
      obtain ⟨e22, he22⟩ := get_some (l := es1.set (i : Int).toNat (k + 3 * i, e15.2.1, e15.2.2)) (i := i) (by omega) (by first | omega | (simp; omega))
      have hq22 : e22 = (k + 3 * i, e15.2.1, e15.2.2) := by rw [List.getElem?_set_self (by omega)] at he22; injection he22 with h; exact h.symm
      refine sp F (p_iaddr rfl rfl Tryd.underlying28 Tryd.sz_39 (by omega) (by omega)) rfl rfl fun a F => sp F (p_faddr rfl Tryd.foff_39_1) rfl rfl fun a F => so F rfl (o_storeRow F O rfl rfl Tryd.sz_3 rfl rfl 0 rfl (by rw [flat_len encUp_len]; first | omega | (simp; omega)) fun w O => ?_)
      have hst : ((es1.set (i : Int).toNat (k + 3 * i, e15.2.1, e15.2.2)).flatMap encUp).set (0 + (i : Int).toNat * 3 + 1) (.int .i64 ((k + 3 * i) + 1)) = ((es1.set (i : Int).toNat (k + 3 * i, e15.2.1, e15.2.2)).set (i : Int).toNat (e22.1, (k + 3 * i) + 1, e22.2.2)).flatMap encUp := flat_set encUp_len he22 (j := 1) rfl (by decide)
      have O := O.setR 0 rfl (congrArg (Res.row 39 3 (.slice (some ⟨b, 0, none⟩) n c) n) hst)
      have O : Own w0 [b] [.row 39 3 (.slice (some ⟨b, 0, none⟩) n c) n (((es1.set (i : Int).toNat (k + 3 * i, e15.2.1, e15.2.2)).set (i : Int).toNat (e22.1, (k + 3 * i) + 1, e22.2.2)).flatMap encUp)] w := O
      refine c_nil (hK9 _ _ (?_))
      try clear hK9 K9
      refine c_seq fun K10 hK10 => c_region (sp F (p_move rfl) rfl rfl fun a F => sp F (p_add rfl rfl (by omega) (by omega)) rfl rfl fun a F => sp F (p_assign rfl) rfl rfl fun a F => c_nil (hK10 _ _ (?_)))
      try clear hK10 K10
      refine c_seq fun K11 hK11 => c_region (sp F (p_move rfl) rfl rfl fun a F => sp F (p_move rfl) rfl rfl fun a F => sp F (p_move rfl) rfl rfl fun a F => ?_)
      obtain ⟨e29, he29⟩ := get_some (l := (es1.set (i : Int).toNat (k + 3 * i, e15.2.1, e15.2.2)).set (i : Int).toNat (e22.1, (k + 3 * i) + 1, e22.2.2)) (i := i) (by omega) (by first | omega | (simp; omega))
      have hq29 : e29 = (e22.1, k + 3 * i + 1, e22.2.2) := by rw [List.getElem?_set_self (by simp; omega)] at he29; injection he29 with h; exact h.symm
      refine sp F (p_iaddr rfl rfl Tryd.underlying28 Tryd.sz_39 (by omega) (by omega)) rfl rfl fun a F => sp F (p_faddr rfl Tryd.foff_39_2) rfl rfl fun a F => so F rfl (o_storeRow F O rfl rfl Tryd.sz_3 rfl rfl 0 rfl (by rw [flat_len encUp_len]; first | omega | (simp; omega)) fun w O => ?_)
      have hst : (((es1.set (i : Int).toNat (k + 3 * i, e15.2.1, e15.2.2)).set (i : Int).toNat (e22.1, (k + 3 * i) + 1, e22.2.2)).flatMap encUp).set (0 + (i : Int).toNat * 3 + 2) (.int .i64 (((k + 3 * i) + 1) + 1)) = (((es1.set (i : Int).toNat (k + 3 * i, e15.2.1, e15.2.2)).set (i : Int).toNat (e22.1, (k + 3 * i) + 1, e22.2.2)).set (i : Int).toNat (e29.1, e29.2.1, ((k + 3 * i) + 1) + 1)).flatMap encUp := flat_set encUp_len he29 (j := 2) rfl (by decide)
      have O := O.setR 0 rfl (congrArg (Res.row 39 3 (.slice (some ⟨b, 0, none⟩) n c) n) hst)
      have O : Own w0 [b] [.row 39 3 (.slice (some ⟨b, 0, none⟩) n c) n ((((es1.set (i : Int).toNat (k + 3 * i, e15.2.1, e15.2.2)).set (i : Int).toNat (e22.1, (k + 3 * i) + 1, e22.2.2)).set (i : Int).toNat (e29.1, e29.2.1, ((k + 3 * i) + 1) + 1)).flatMap encUp)] w := O
      refine c_nil (hK11 _ _ (?_))
      try clear hK11 K11
      refine c_region (sp F (p_move rfl) rfl rfl fun a F => sp F (p_add rfl rfl (by omega) (by omega)) rfl rfl fun a F => sp F (p_assign rfl) rfl rfl fun a F => c_nil (hK6 _ _ (?_)))
      try clear hK6 K6
      refine c_region (sp F (p_move rfl) rfl rfl fun a F => sp F (p_add rfl rfl (by omega) (by omega)) rfl rfl fun a F => sp F (p_assign rfl) rfl rfl fun a F => c_nil (?_))
      have F := F.setV (d := 1) rfl (show Value.int .i64 ((((k + 3 * i) + 1) + 1) + 1) = .int .i64 (k + 3 * (i + 1)) from by first | rfl | exact vint (by omega) | exact vint (by simp; done) | exact vsl (by omega) | (simp; done))
      have F : Has 34 [(0, .slice (some ⟨b, 0, none⟩) n c), (4, .int .i64 (0)), (5, .int .i64 (i + 1)), (1, .int .i64 (k + 3 * (i + 1)))] a := F.pick ⟨rfl, rfl, rfl, rfl, trivial⟩
      exact ⟨((n : Int) - (i + 1)).toNat, by omega, (i + 1), (((es1.set (i : Int).toNat (k + 3 * i, e15.2.1, e15.2.2)).set (i : Int).toNat (e22.1, (k + 3 * i) + 1, e22.2.2)).set (i : Int).toNat (e29.1, e29.2.1, ((k + 3 * i) + 1) + 1)), rfl, F, O, by first | assumption | omega, by first | assumption | omega, by simp; omega, by rw [set_set_set]; exact marksUTo_set hi0d hi0a (by omega) (by rw [hq29, hq22]) (by rw [hq29]) (by simp; omega)⟩
    · have F := F.setB (d := 9) rfl (decide_eq_false c9)
      refine c_iff F rfl (wp_exit (e_then (e_then (e_here (hK2 _ _ (?_))))))
      try clear hK2 K2
      refine c_seq fun K6 hK6 => c_region (sp F (p_move rfl) rfl rfl fun a F => sp F (p_assign rfl) rfl rfl fun a F => c_nil (hK6 _ _ (?_)))
      try clear hK6 K6
      refine wp_ret (ret1 F rfl rfl (?_))
      exact ⟨es1, congrArg Ending.returned (show Value.int .i64 (k + 3 * i) = .int .i64 (k + 3 * (n : Int)) from by first | exact vint (by omega) | exact vint (by simp; done)), by first | assumption | omega, by exact marksU_of hi0d (by omega), O⟩


theorem markUpdateS (P : Option Addr) (n c : Nat) (es : List (Int × Int × Int)) (k : Int) (w0 : World) (hn : (n : Int) = es.length) (hb : (n : Int) ≤ 1048600) (h0 : 0 ≤ k) (h1 : k ≤ 100000000) (O : Own w0 (Value.slice P n c).ownBlock.toList [.row 39 3 (.slice P n c) n (es.flatMap encUp)] w0) :
    Calls Tryd.prog 14 #[.slice P n c, .int .i64 k] w0 fun e w => ∃ (es1 : List (Int × Int × Int)), e = .returned (.int .i64 (k + 3 * (n : Int))) ∧ ((n : Int) = es1.length) ∧ (MarksU es1 k) ∧ Own w0 (Value.slice P n c).ownBlock.toList [.row 39 3 (.slice P n c) n (es1.flatMap encUp)] w := by
  have hr : w0.ownsRow 0 39 3 (.slice P n c) n (es.flatMap encUp) := O.has (i := 0) rfl
  rcases slice_row hr with ⟨rfl, rfl, rfl⟩ | ⟨b, rfl⟩
  · refine (markUpdateS_nil k w0 h0 h1).mono fun e w h => ?_
    refine ⟨[], h.1.trans (by simp), rfl, fun i e he => by simp at he, ?_⟩
    have O2 := h.2.addNil 39 3
    exact O2
  · exact markUpdateS_some b n c es k w0 hn hb h0 h1 O

end Go.Proofs.YtilpbddeijolbaaDoor
