/- Plain laws on names. No conditions but those said. -/
import Derived.Test.YtjmnnogpinggmaaDoorNamD
import Derived.Test.YtjmnnogpinggmaaDoorOpenC
import Derived.ChangeMaps5
namespace Go.Proofs.YtjmnnogpinggmaaDoor
open Go.ChangeShapes Go.WideShapes Go.ChangeAt Go.RowKit
set_option linter.unusedVariables false
set_option linter.unusedSimpArgs false


theorem open_text {H : Type} {enc : TypeId × Value → H} {W : World} {r : Reach} {b0 : Nat} {v : Value} {d : DataW H} {p : List MemPlace}
    (hv : Value.okWide Tryd.prog W r b0 9 v) (h : DataW.Trod enc Tryd.prog W 0 (fun _ => true) true 9 v d p) : ∃ s : List UInt8, v = .string (bs s) ∧ (s.length : Int) ≤ 9223372036854775807 := by
  obtain ⟨b, rfl, _, _, hb⟩ := Go.ChangeMaps.open_string Tryd.underlying9 hv h
  exact ⟨b.data.toList, by rw [← bs_of b], by rw [bs_of b, bs_size] at hb; unfold maxLen at hb; omega⟩

section
variable {p s x y : List UInt8}
theorem match_self (h : validB s = true) : matchB s s = true :=
  matchB_iff.2 ⟨⟨h, (validB_iff.1 h).1⟩, mtcB_iff.2 ⟨.inl rfl, fun i e _ he => .inr he⟩⟩
theorem cut_app_sl : ∀ {a b : List UInt8}, cutL (a ++ 47 :: b) = cutL a ++ cutL b
  | [], b => by conv => lhs; unfold cutL
                simp [cutL]
  | c :: a, b => by
    have ih := cut_app_sl (a := a) (b := b)
    by_cases h : c = 47
    · subst h
      rw [List.cons_append]
      conv => lhs; unfold cutL
      conv => rhs; lhs; unfold cutL
      simp [ih]
    · rw [List.cons_append, cutL_cons h, cutL_cons h, ih]
      cases hc : cutL a with
      | nil => exact absurd hc (cutL_ne a)
      | cons y t => rfl
theorem cut_snoc {c : UInt8} (hc : c ≠ 47) : ∀ (a : List UInt8), ∃ i e, cutL a = i ++ [e] ∧ cutL (a ++ [c]) = i ++ [e ++ [c]]
  | [] => ⟨[], [], rfl, by rw [List.nil_append, cutL_cons hc]; rfl⟩
  | d :: a => by
    obtain ⟨i, e, h1, h2⟩ := cut_snoc hc a
    by_cases h : d = 47
    · subst h
      refine ⟨[] :: i, e, ?_, ?_⟩
      · conv => lhs; unfold cutL
        simp [h1]
      · rw [List.cons_append]
        conv => lhs; unfold cutL
        simp [h2]
    · rw [List.cons_append, cutL_cons h, cutL_cons h, h1, h2]
      cases i with
      | nil => exact ⟨[], d :: e, rfl, rfl⟩
      | cons y t => exact ⟨(d :: y) :: t, e, rfl, rfl⟩
theorem byteAt_app (a : List UInt8) (c : UInt8) : byteAt (a ++ [c]) (a.length : Int) = (c.toNat : Int) := by
  unfold byteAt; rw [Int.toNat_natCast, List.getD_eq_getElem?_getD, List.getElem?_append_right (by omega)]; simp
theorem byteAt_app_lt {a r : List UInt8} {k : Int} (h0 : 0 ≤ k) (h : k < a.length) : byteAt (a ++ r) k = byteAt a k := by
  unfold byteAt; rw [List.getD_eq_getElem?_getD, List.getD_eq_getElem?_getD, List.getElem?_append_left (by omega)]
theorem part_a {l : List UInt8} (h : partB l = true) : partB (l ++ [97]) = true := by
  obtain ⟨h0, h1⟩ := partB_iff.1 h
  have hl : ((l ++ [97]).length : Int) = l.length + 1 := by simp
  refine partB_iff.2 ⟨by simp, fun i h2 h3 => ?_⟩
  by_cases hi : i < l.length
  · have h4 := h1 i h2 hi
    unfold GoodC at h4 ⊢
    rw [byteAt_app_lt h2 hi]
    exact ⟨h4.1, fun h5 => ⟨(h4.2 h5).1, by omega⟩⟩
  · have : i = l.length := by omega
    subst this
    have e := byteAt_app l 97
    unfold GoodC okc
    rw [e]
    exact ⟨by decide, fun h5 => absurd h5 (by decide)⟩
theorem part_bad {l : List UInt8} {c : UInt8} (hc : ¬ okc (c.toNat : Int)) : ¬ partB (l ++ [c]) = true := fun h => by
  have h1 := ((partB_iff.1 h).2 (l.length : Int) (by omega) (by simp; omega)).1
  rw [byteAt_app] at h1
  exact hc h1
theorem part_dash {l : List UInt8} : ¬ partB (l ++ [45]) = true := fun h => by
  have h1 := ((partB_iff.1 h).2 (l.length : Int) (by omega) (by simp; omega)).2 (byteAt_app l 45)
  have : ((l ++ [45]).length : Int) = l.length + 1 := by simp
  omega
theorem allB_app {u v : List (List UInt8)} : allB (u ++ v) = (allB u && allB v) := by unfold allB; rw [List.all_append]
theorem allB_one {e : List UInt8} : allB [e] = partB e := by unfold allB; simp
theorem allB_cons {e : List UInt8} {v : List (List UInt8)} : allB (e :: v) = (partB e && allB v) := by unfold allB; rw [List.all_cons]
theorem valid_a (h : validB s = true) : validB (s ++ [97]) = true ↔ (s.length : Int) < 12 := by
  obtain ⟨i, e, h1, h2⟩ := cut_snoc (c := 97) (by decide) s
  have h3 := (validB_iff.1 h).2
  rw [h1, allB_app, allB_one, Bool.and_eq_true] at h3
  rw [validB_iff, h2, allB_app, allB_one, Bool.and_eq_true]
  have hl : ((s ++ [97]).length : Int) = s.length + 1 := by simp
  exact ⟨fun h4 => by omega, fun h4 => ⟨by omega, h3.1, part_a h3.2⟩⟩
theorem valid_snoc_bad {c : UInt8} (hc : c ≠ 47) (hb : ∀ l, ¬ partB (l ++ [c]) = true) : ¬ validB (s ++ [c]) = true := fun h => by
  obtain ⟨i, e, h1, h2⟩ := cut_snoc hc s
  have h3 := (validB_iff.1 h).2
  rw [h2, allB_app, allB_one, Bool.and_eq_true] at h3
  exact hb e h3.2
theorem valid_sl : ¬ validB (s ++ [47]) = true := fun h => by
  have h3 := (validB_iff.1 h).2
  rw [cut_app_sl, allB_app, Bool.and_eq_true] at h3
  exact absurd h3.2 (by decide)
theorem valid_lead : ¬ validB ([47] ++ s) = true := fun h => by
  have h3 := (validB_iff.1 h).2
  rw [show [47] ++ s = [] ++ 47 :: s from rfl, cut_app_sl, allB_app, Bool.and_eq_true] at h3
  exact absurd h3.1 (by decide)
theorem valid_pre {r : List UInt8} (h : validB (s ++ 47 :: r) = true) : validB s = true := by
  have h3 := validB_iff.1 h
  rw [cut_app_sl, allB_app, Bool.and_eq_true] at h3
  have hl : ((s ++ 47 :: r).length : Int) = s.length + r.length + 1 := by simp; omega
  exact validB_iff.2 ⟨by omega, h3.2.1⟩
theorem clash_comm : clashB x y = clashB y x := by
  unfold clashB; rw [Bool.and_comm (validB x), Bool.or_comm (preB x (y ++ [47]))]
theorem clash_x (h : validB (s ++ [47, 120]) = true) : clashB s (s ++ [47, 120]) = true := by
  refine clash_iff.2 ⟨⟨valid_pre h, h⟩, .inr (preB_iff.2 ⟨by simp, ?_⟩)⟩
  rw [show s ++ [47, 120] = (s ++ [47]) ++ [120] by simp, List.take_left]
theorem clash_self : ¬ clashB s s = true := fun h => by
  rcases (clash_iff.1 h).2 with h1 | h1 <;> have := (preB_iff.1 h1).1 <;> simp at this <;> omega
theorem pre_cut (h : preB x (y ++ [47]) = true) : ∃ r, cutL x = cutL y ++ cutL r := by
  have h1 := (preB_iff.1 h).2
  refine ⟨x.drop (y ++ [47]).length, ?_⟩
  rw [← cut_app_sl]
  conv => lhs; rw [← List.take_append_drop (y ++ [47]).length x, h1]
  simp
theorem clash_parts (h : clashB x y = true) : ((partsL y).length < (partsL x).length ∧ (partsL x).take (partsL y).length = partsL y) ∨ ((partsL x).length < (partsL y).length ∧ (partsL y).take (partsL x).length = partsL x) := by
  obtain ⟨⟨h1, h2⟩, h3⟩ := clash_iff.1 h
  rw [parts_ok h1, parts_ok h2]
  rcases h3 with h3 | h3
  · obtain ⟨r, hr⟩ := pre_cut h3
    have := cut_pos (s := r)
    exact .inl ⟨by rw [hr, List.length_append]; omega, by rw [hr, List.take_left]⟩
  · obtain ⟨r, hr⟩ := pre_cut h3
    have := cut_pos (s := r)
    exact .inr ⟨by rw [hr, List.length_append]; omega, by rw [hr, List.take_left]⟩
theorem clash_head {e f : List UInt8} (h : clashB x y = true) (he : (partsL x)[0]? = some e) (hf : (partsL y)[0]? = some f) : e = f := by
  have h1 := (List.getElem?_eq_some_iff.1 he).1
  have h2 := (List.getElem?_eq_some_iff.1 hf).1
  rcases clash_parts h with ⟨_, h3⟩ | ⟨_, h3⟩
  · rw [← h3, List.getElem?_take, if_pos (by omega), he] at hf; injection hf
  · rw [← h3, List.getElem?_take, if_pos (by omega), hf] at he; injection he with he; exact he.symm
def joinL : List (List UInt8) → List UInt8
  | [] => []
  | [a] => a
  | a :: b :: r => a ++ 47 :: joinL (b :: r)
theorem joinL_cons {c : UInt8} {h : List UInt8} {t : List (List UInt8)} : joinL ((c :: h) :: t) = c :: joinL (h :: t) := by
  cases t with
  | nil => rfl
  | cons b r => rfl
theorem join_cut : ∀ {s : List UInt8}, joinL (cutL s) = s
  | [] => rfl
  | c :: l => by
    have ih := join_cut (s := l)
    by_cases h : c = 47
    · subst h
      conv => lhs; arg 1; unfold cutL
      cases hc : cutL l with
      | nil => exact absurd hc (cutL_ne l)
      | cons y t => rw [hc] at ih; show [] ++ 47 :: joinL (y :: t) = _; rw [ih]; rfl
    · rw [cutL_cons h]
      cases hc : cutL l with
      | nil => exact absurd hc (cutL_ne l)
      | cons y t => rw [hc] at ih; show joinL ((c :: y) :: t) = _; rw [joinL_cons, ih]
theorem join_snoc {e : List UInt8} : ∀ {l : List (List UInt8)}, l ≠ [] → joinL (l ++ [e]) = joinL l ++ [47] ++ e
  | [], h => absurd rfl h
  | [a], _ => by show a ++ 47 :: e = _; simp [joinL]
  | a :: b :: r, _ => by
    have ih := join_snoc (e := e) (l := b :: r) (by simp)
    show a ++ 47 :: joinL (b :: r ++ [e]) = a ++ 47 :: joinL (b :: r) ++ [47] ++ e
    rw [ih]; simp
theorem join_step {l : List (List UInt8)} {e : List UInt8} {k : Int} (h1 : 1 ≤ k) (he : l[k.toNat]? = some e) : joinL (l.take (k + 1).toNat) = joinL (l.take k.toNat) ++ [47] ++ e := by
  rw [take_step (by omega) he, join_snoc]
  intro h
  have := congrArg List.length h
  have hl := (List.getElem?_eq_some_iff.1 he).1
  rw [List.length_take, List.length_nil] at this
  omega
theorem join_one {l : List (List UInt8)} {e : List UInt8} (he : l[0]? = some e) : joinL (l.take (1 : Int).toNat) = e := by
  cases l with
  | nil => simp at he
  | cons a r => simp at he; subst he; rfl
theorem cut_part {e : List UInt8} (h : partB e = true) : cutL e = [e] := cut_none fun c hc e1 => by
  obtain ⟨i, h1, h2, h3⟩ := mem_byteAt hc
  have := ((partB_iff.1 h).2 i h1 h2).1
  rw [h3, e1] at this
  exact absurd this (by unfold okc; decide)
theorem part_valid {e : List UInt8} {i : Nat} (h : validB s = true) (he : (cutL s)[i]? = some e) : validB e = true := by
  have h1 := validB_iff.1 h
  have h2 := all_get h1.2 he
  have h3 := cut_small e (List.mem_of_getElem? he)
  exact validB_iff.2 ⟨by omega, by rw [cut_part h2, allB_one]; exact h2⟩
theorem parts_val (h : 0 < (partsL s).length) : validB s = true := by
  by_cases hv : validB s = true
  · exact hv
  · rw [parts_bad hv] at h; simp at h
theorem star_not (h : validB s = true) {i : Nat} {e : List UInt8} (he : (cutL s)[i]? = some e) : ¬ e = [42] := fun e1 => by
  have := all_get (validB_iff.1 h).2 he
  rw [e1] at this
  exact absurd this (by decide)
theorem match_valid (hp : validB p = true) (hs : validB s = true) : matchB p s = true ↔ p = s := by
  constructor
  · intro h
    obtain ⟨h1, h2⟩ := mtcB_iff.1 (matchB_iff.1 h).2
    have h3 : (cutL p).length = (cutL s).length := by
      rcases h1 with h1 | h1
      · exact h1
      · have hl := h1.2
        rw [List.getLast?_eq_getElem?] at hl
        exact absurd rfl (star_not hp hl)
    have h4 : cutL p = cutL s := by
      apply List.ext_getElem?
      intro i
      by_cases hi : i < (cutL p).length
      · have he : (cutL p)[i]? = some (cutL p)[i] := List.getElem?_eq_getElem hi
        rcases h2 i _ (by omega) he with h5 | h5
        · exact absurd h5 (star_not hp he)
        · rw [h5, he]
      · rw [List.getElem?_eq_none (by omega), List.getElem?_eq_none (by omega)]
    rw [← join_cut (s := p), h4, join_cut]
  · intro h; subst h
    exact matchB_iff.2 ⟨⟨hs, (validB_iff.1 hs).1⟩, mtcB_iff.2 ⟨.inl rfl, fun i e _ he => .inr he⟩⟩
theorem byteAt_47 {k : Int} (h0 : 0 ≤ k) (hk : k < s.length) (h : byteAt s k = 47) : s[k.toNat]? = some 47 := by
  rw [List.getElem?_eq_getElem (by omega)]
  unfold byteAt at h
  rw [List.getD_eq_getElem?_getD, List.getElem?_eq_getElem (by omega), Option.getD_some] at h
  congr 1
  exact UInt8.toNat_inj.1 (by simpa using (show s[k.toNat].toNat = 47 by omega))
theorem cnt_sl {k : Int} (h0 : 0 ≤ k) (hk : k < s.length) (h : byteAt s k = 47) : (cutL (s.take (k + 1).toNat)).length = (cutL (s.take k.toNat)).length + 1 := by
  rw [take_step h0 (byteAt_47 h0 hk h), cut_app_sl, List.length_append]; rfl
theorem cnt_ne {k : Int} (h0 : 0 ≤ k) (hk : k < s.length) (h : ¬ byteAt s k = 47) : (cutL (s.take (k + 1).toNat)).length = (cutL (s.take k.toNat)).length := by
  have he : s[k.toNat]? = some s[k.toNat] := List.getElem?_eq_getElem (by omega)
  rw [take_step h0 he]
  obtain ⟨i, e, h1, h2⟩ := cut_snoc (c := s[k.toNat]) (fun e => h (by unfold byteAt; rw [List.getD_eq_getElem?_getD, he, Option.getD_some, e]; rfl)) (s.take k.toNat)
  rw [h2, h1]; simp
theorem cnt_all {k : Int} (h : (s.length : Int) ≤ k) : cutL (s.take k.toNat) = cutL s := by rw [take_all h]
theorem last_star (h : (cutL p).getLast? = some [42]) : 0 < p.length ∧ byteAt p ((p.length : Int) - 1) = 42 := by
  rcases List.eq_nil_or_concat p with rfl | ⟨a, c, rfl⟩
  · simp [cutL] at h
  · rw [List.concat_eq_append] at h ⊢
    have hl : ((a ++ [c]).length : Int) - 1 = a.length := by simp
    refine ⟨by simp, ?_⟩
    rw [hl, byteAt_app]
    by_cases hc : c = 47
    · subst hc
      rw [cut_app_sl] at h
      simp [cutL] at h
    · obtain ⟨i, e, h1, h2⟩ := cut_snoc hc a
      rw [h2] at h
      simp at h
      cases e with
      | nil => simp at h; rw [h]; rfl
      | cons y t => simp at h
theorem match_len (h : matchB p s = true) : (cutL p).length = (partsL s).length ∨ ((cutL p).length < (partsL s).length ∧ 0 < p.length ∧ byteAt p ((p.length : Int) - 1) = 42) := by
  obtain ⟨⟨h1, _⟩, h2⟩ := matchB_iff.1 h
  rw [parts_ok h1]
  rcases (mtcB_iff.1 h2).1 with h3 | h3
  · exact .inl h3
  · exact .inr ⟨h3.1, last_star h3.2⟩
theorem two_parts {a b : List UInt8} {n : Nat} (hn : (n : Int) = (partsL s).length) (h2 : n = 2) (ha : (partsL s)[0]? = some a) (hb : (partsL s)[1]? = some b) : validB s = true ∧ cutL s = [a, b] ∧ validB a = true ∧ validB b = true := by
  have hv := parts_val (s := s) (by omega)
  rw [parts_ok hv] at ha hb hn
  refine ⟨hv, ?_, part_valid hv ha, part_valid hv hb⟩
  match h : cutL s, hn, ha, hb with
  | [x, y], _, ha, hb => simp at ha hb; rw [ha, hb]
  | [], hn, _, _ => simp at hn; omega
  | [x], hn, _, _ => simp at hn; omega
  | x :: y :: z :: r, hn, _, _ => simp at hn; omega
theorem one_b {a b : List UInt8} (hv : validB s = true) (hc : cutL s = [a, b]) (hb : validB b = true) (hl : ¬ (12 : Int) < b.length + 2) : matchB ([42, 47] ++ b) s = true := by
  have e : cutL ([42, 47] ++ b) = [[42], b] := by
    have h1 := all_get (validB_iff.1 hv).2 (i := 1) (e := b) (by rw [hc]; rfl)
    rw [show ([42, 47] : List UInt8) ++ b = [42] ++ 47 :: b from rfl, cut_app_sl, cut_part h1]; rfl
  refine matchB_iff.2 ⟨⟨hv, by simp; omega⟩, ?_⟩
  rw [e, hc]
  refine mtcB_iff.2 ⟨.inl rfl, fun i x _ hx => ?_⟩
  match i, hx with
  | 0, hx => simp at hx; exact .inl hx.symm
  | 1, hx => exact .inr hx
  | i + 2, hx => simp at hx
theorem one_a {a b : List UInt8} (hv : validB s = true) (hc : cutL s = [a, b]) (hl : ¬ (12 : Int) < a.length + 2) : matchB (a ++ [47, 42]) s = true := by
  have h1 := all_get (validB_iff.1 hv).2 (i := 0) (e := a) (by rw [hc]; rfl)
  have e : cutL (a ++ [47, 42]) = [a, [42]] := by rw [cut_app_sl, cut_part h1]; rfl
  refine matchB_iff.2 ⟨⟨hv, by simp; omega⟩, ?_⟩
  rw [e, hc]
  refine mtcB_iff.2 ⟨.inl rfl, fun i x _ hx => ?_⟩
  match i, hx with
  | 0, hx => exact .inr hx
  | 1, hx => simp at hx; exact .inl hx.symm
  | i + 2, hx => simp at hx
theorem one_no {a b : List UInt8} (hv : validB s = true) (hc : cutL s = [a, b]) (ha : validB a = true) : ¬ matchB a s = true := fun h => by
  have h1 := all_get (validB_iff.1 hv).2 (i := 0) (e := a) (by rw [hc]; rfl)
  have h2 := (mtcB_iff.1 (matchB_iff.1 h).2).1
  rw [cut_part h1, hc] at h2
  rcases h2 with h2 | h2
  · simp at h2
  · have := h2.2
    simp at this
    subst this
    exact absurd h1 (by decide)
theorem cut_star : cutL [42] = [[42]] := by decide
theorem match_star (h : validB s = true) : matchB [42] s = true := by
  have hc := cut_pos (s := s)
  refine matchB_iff.2 ⟨⟨h, by simp⟩, ?_⟩
  rw [cut_star]
  refine mtcB_iff.2 ⟨?_, fun i e hi he => .inl ?_⟩
  · unfold StarP
    by_cases h1 : (cutL s).length = 1
    · exact .inl h1.symm
    · exact .inr ⟨by simp; omega, rfl⟩
  · match i, he with
    | 0, he => simpa using he.symm
    | i + 1, he => simp at he
end
end Go.Proofs.YtjmnnogpinggmaaDoor
