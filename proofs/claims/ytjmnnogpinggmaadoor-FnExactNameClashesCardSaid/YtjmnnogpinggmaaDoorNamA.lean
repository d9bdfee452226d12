/- Contracts of the functions on the parts of a name. No conditions but those on lengths. -/
import Derived.Test.YtjmnnogpinggmaaDoorNamP
namespace Go.Proofs.YtjmnnogpinggmaaDoor
open Go.ChangeShapes Go.WideShapes Go.ChangeAt Go.RowKit
set_option linter.unusedVariables false
set_option linter.unusedSimpArgs false


section
variable {k : Int}
theorem take_step {α : Type} {l : List α} {e : α} (h0 : 0 ≤ k) (he : l[k.toNat]? = some e) : l.take (k + 1).toNat = l.take k.toNat ++ [e] := by
  rw [show (k + 1).toNat = k.toNat + 1 by omega, List.take_add_one, he]; rfl
theorem take_all {α : Type} {l : List α} (h : (l.length : Int) ≤ k) : l.take k.toNat = l := List.take_of_length_le (by omega)
end
section
variable {α : Type} {k : Int} {es es1 es2 : List α} {e e1 e2 : α}
def SameTo (k : Int) (es es2 : List α) : Prop := ∀ i : Nat, (i : Int) < k → es[i]? = es2[i]?
theorem sameTo_zero : SameTo 0 es es2 := fun i h => by omega
theorem sameTo_step (h : SameTo k es es2) (h0 : 0 ≤ k) (he : es[k.toNat]? = some e1) (he2 : es2[k.toNat]? = some e2) (hh : e1 = e2) : SameTo (k + 1) es es2 := fun i hi => by
  by_cases hik : (i : Int) < k
  · exact h i hik
  · have : i = k.toNat := by omega
    subst this; rw [he, he2, hh]
theorem sameTo_set (h : SameTo k es1 es) (h0 : 0 ≤ k) (he : es[k.toNat]? = some e) (hl : k < es1.length) : SameTo (k + 1) (es1.set k.toNat e) es := fun i hi => by
  by_cases hik : i = k.toNat
  · subst hik
    rw [List.getElem?_set_self (by omega), he]
  · rw [List.getElem?_set_ne (by omega)]
    exact h i (by omega)
theorem same_ext (h : SameTo k es es2) (hk : (es.length : Int) ≤ k) (hl : (es.length : Int) = es2.length) : es = es2 := by
  apply List.ext_getElem?
  intro i
  by_cases hi : i < es.length
  · exact h i (by omega)
  · rw [List.getElem?_eq_none (by omega), List.getElem?_eq_none (by omega)]
end

def digsF : Nat → Nat → List UInt8
  | 0, _ => []
  | f + 1, k => if k = 0 then [] else digsF f (k / 10) ++ [UInt8.ofNat (48 + k % 10)]
def mtext (k : Int) : List UInt8 := if k ≤ 0 then [109, 48] else [109] ++ digsF k.toNat k.toNat
def MarksS (es : List (List UInt8)) (k : Int) : Prop := ∀ (i : Nat) e, es[i]? = some e → e = mtext (k + i)
def MarksSTo (es : List (List UInt8)) (k j : Int) : Prop := ∀ (i : Nat) e, (i : Int) < j → es[i]? = some e → e = mtext (k + i)
section
variable {es : List (List UInt8)} {k j : Int}
theorem digsF_zero (f : Nat) : digsF f 0 = [] := by cases f <;> simp [digsF]
theorem digsF_step {f : Nat} {k : Int} {L R : List UInt8} (hk : 0 < k) (hf : k.toNat ≤ f) (h : digsF f k.toNat ++ L = R) : ∃ g, (k / 10 : Int).toNat ≤ g ∧ digsF g (k / 10 : Int).toNat ++ ([UInt8.ofNat (48 + k % 10 : Int).toNat] ++ L) = R := by
  obtain ⟨g, rfl⟩ : ∃ g, f = g + 1 := ⟨f - 1, by omega⟩
  refine ⟨g, by omega, ?_⟩
  rw [digsF, if_neg (by omega)] at h
  have e1 : (k / 10 : Int).toNat = k.toNat / 10 := by omega
  have e2 : (48 + k % 10 : Int).toNat = 48 + k.toNat % 10 := by omega
  rw [e1, e2, ← h, List.append_assoc]
theorem marksSTo_zero : MarksSTo es k 0 := fun i e h => by omega
theorem marksSTo_set (h : MarksSTo es k j) (h0 : 0 ≤ j) (hl : j < es.length) : MarksSTo (es.set j.toNat (mtext (k + j))) k (j + 1) := fun i e hi he => by
  by_cases hij : i = j.toNat
  · subst hij
    rw [List.getElem?_set_self (by omega)] at he
    injection he with he
    rw [Int.toNat_of_nonneg h0]; exact he.symm
  · rw [List.getElem?_set_ne (by omega)] at he
    exact h i e (by omega) he
theorem marksS_of (h : MarksSTo es k j) (hl : (es.length : Int) ≤ j) : MarksS es k := fun i e he => h i e (by have := (List.getElem?_eq_some_iff.1 he).1; omega) he
end

def okc (n : Int) : Prop := ((97 ≤ n ∧ n ≤ 122) ∨ (48 ≤ n ∧ n ≤ 57)) ∨ n = 45
def GoodC (l : List UInt8) (i : Int) : Prop := okc (byteAt l i) ∧ (byteAt l i = 45 → ¬ i = 0 ∧ ¬ i = (l.length : Int) - 1)
instance {l : List UInt8} {i : Int} : Decidable (GoodC l i) := by unfold GoodC okc; infer_instance
def GoodTo (k : Int) (l : List UInt8) : Prop := ∀ i : Int, 0 ≤ i → i < k → GoodC l i
def partB (l : List UInt8) : Bool := decide (0 < l.length) && (List.range l.length).all fun i => decide (GoodC l i)
def allB (es : List (List UInt8)) : Bool := es.all partB
def OkTo (k : Int) (es : List (List UInt8)) : Prop := ∀ (i : Nat) e, (i : Int) < k → es[i]? = some e → partB e = true
def validB (s : List UInt8) : Bool := decide ((s.length : Int) ≤ 12) && allB (cutL s)
def NoSl (l : List UInt8) (a k : Int) : Prop := ∀ i : Int, a ≤ i → i < k → ¬ byteAt l i = 47
def preB (a b : List UInt8) : Bool := decide ((b.length : Int) ≤ a.length) && decide (a.take b.length = b)
def clashB (a b : List UInt8) : Bool := (validB a && validB b) && (preB a (b ++ [47]) || preB b (a ++ [47]))
def partsL (s : List UInt8) : List (List UInt8) := if validB s = true then cutL s else []
section
variable {l s a b : List UInt8} {k j : Int} {es L : List (List UInt8)} {e : List UInt8}
theorem partB_iff : partB l = true ↔ 0 < l.length ∧ GoodTo l.length l := by
  unfold partB
  rw [Bool.and_eq_true, decide_eq_true_eq, List.all_eq_true]
  constructor
  · rintro ⟨h0, h⟩
    refine ⟨h0, fun i h1 h2 => ?_⟩
    have := h i.toNat (List.mem_range.2 (by omega))
    rw [decide_eq_true_eq, Int.toNat_of_nonneg h1] at this
    exact this
  · rintro ⟨h0, h⟩
    refine ⟨h0, fun i hi => ?_⟩
    rw [decide_eq_true_eq]
    exact h i (by omega) (by have := List.mem_range.1 hi; omega)
theorem goodTo_zero : GoodTo 0 l := fun i h0 h1 => by omega
theorem goodTo_step (h : GoodTo k l) (h0 : 0 ≤ k) (hc : GoodC l k) : GoodTo (k + 1) l := fun i h1 h2 => by
  by_cases hik : i = k
  · subst hik; exact hc
  · exact h i h1 (by omega)
theorem part_not (h0 : 0 ≤ k) (hk : k < l.length) (h : ¬ GoodC l k) : ¬ partB l = true := fun hp => h ((partB_iff.1 hp).2 k h0 hk)
theorem dropWhile_all {α : Type} {p : α → Bool} : ∀ {m : List α}, (∀ x ∈ m, p x = true) → m.dropWhile p = []
  | [], _ => rfl
  | x :: m, h => by rw [List.dropWhile_cons, if_pos (h x (List.mem_cons_self ..))]; exact dropWhile_all fun y hy => h y (List.mem_cons_of_mem _ hy)
theorem dropWhile_head {α : Type} {p : α → Bool} : ∀ {m : List α} {x : α} {r : List α}, m.dropWhile p = x :: r → p x = false
  | [], _, _, h => by simp at h
  | y :: m, x, r, h => by
    rw [List.dropWhile_cons] at h
    split at h
    · exact dropWhile_head h
    · rename_i hy; injection h with h1 h2; subst h1; simpa using hy
theorem all_dropWhile {α : Type} {p : α → Bool} : ∀ {m : List α}, m.dropWhile p = [] → ∀ x ∈ m, p x = true
  | [], _, _, hx => by simp at hx
  | y :: m, h, x, hx => by
    rw [List.dropWhile_cons] at h
    split at h
    · rename_i hy
      rcases List.mem_cons.1 hx with rfl | hx
      · exact hy
      · exact all_dropWhile h x hx
    · simp at h
theorem trim_nil {cs : List UInt8} : Lib.trimS l cs = [] ↔ ∀ x ∈ l, cs.contains x = true := by
  unfold Lib.trimS Lib.trimLeftS Lib.trimRightS
  constructor
  · intro h x hx
    have h1 := all_dropWhile h
    cases hr : l.reverse.dropWhile (cs.contains ·) with
    | nil => exact all_dropWhile hr x (by simpa using hx)
    | cons y r =>
      have h2 := dropWhile_head hr
      have h3 := h1 y (by rw [hr]; simp)
      rw [h2] at h3; cases h3
  · intro h
    rw [dropWhile_all (m := l.reverse) (fun x hx => h x (by simpa using hx))]
    rfl
theorem alpha_iff (c : UInt8) : alphaL.contains c = true ↔ okc (c.toNat : Int) := by
  have h : ∀ n : Fin 256, alphaL.contains (UInt8.ofNat n.val) = true ↔ okc (n.val : Int) := by unfold okc; decide +kernel
  have := h ⟨c.toNat, c.toNat_lt⟩
  simpa using this
theorem byteAt_mem (h0 : 0 ≤ k) (hk : k < l.length) : ∃ c ∈ l, byteAt l k = (c.toNat : Int) := by
  refine ⟨l[k.toNat], List.getElem_mem _, ?_⟩
  unfold byteAt; rw [List.getD_eq_getElem?_getD, List.getElem?_eq_getElem (by omega)]; rfl
theorem mem_byteAt {c : UInt8} (h : c ∈ l) : ∃ k : Int, 0 ≤ k ∧ k < l.length ∧ byteAt l k = (c.toNat : Int) := by
  obtain ⟨i, hi, rfl⟩ := List.getElem_of_mem h
  refine ⟨i, by omega, by omega, ?_⟩
  unfold byteAt; rw [Int.toNat_natCast, List.getD_eq_getElem?_getD, List.getElem?_eq_getElem hi]; rfl
theorem part_trim (h0 : ¬ l = []) (h8 : ¬ byteAt l 0 = 45) (h16 : ¬ byteAt l ((l.length : Int) - 1) = 45) : Lib.trimS l alphaL = [] ↔ partB l = true := by
  rw [trim_nil, partB_iff]
  constructor
  · intro h
    refine ⟨List.length_pos_iff.2 h0, fun i h1 h2 => ⟨?_, fun h45 => ⟨fun e => h8 (by rw [← e]; exact h45), fun e => h16 (by rw [← e]; exact h45)⟩⟩⟩
    obtain ⟨c, hc, e⟩ := byteAt_mem h1 h2
    rw [e]; exact (alpha_iff c).1 (h c hc)
  · intro h x hx
    obtain ⟨i, h1, h2, e⟩ := mem_byteAt hx
    have := (h.2 i h1 h2).1
    rw [e] at this
    exact (alpha_iff x).2 this
theorem part_nil (h : l = []) : ¬ partB l = true := fun hp => by have := (partB_iff.1 hp).1; subst h; simp at this
theorem part_head (h0 : ¬ l = []) (h : byteAt l 0 = 45) : ¬ partB l = true := fun hp => by
  have h1 := List.length_pos_iff.2 h0
  exact (((partB_iff.1 hp).2 0 (by omega) (by omega)).2 h).1 rfl
theorem part_last (h0 : ¬ l = []) (h : byteAt l ((l.length : Int) - 1) = 45) : ¬ partB l = true := fun hp => by
  have h1 := List.length_pos_iff.2 h0
  exact (((partB_iff.1 hp).2 _ (by omega) (by omega)).2 h).2 rfl
theorem okTo_zero : OkTo 0 es := fun i e h => by omega
theorem okTo_step (h : OkTo k es) (h0 : 0 ≤ k) (he : es[k.toNat]? = some e) (hx : partB e = true) : OkTo (k + 1) es := fun i e1 hi he1 => by
  by_cases hik : (i : Int) < k
  · exact h i e1 hik he1
  · have : i = k.toNat := by omega
    subst this
    rw [he] at he1; injection he1 with he1; subst he1
    exact hx
theorem okTo_all (h : OkTo k es) (hk : (es.length : Int) ≤ k) : allB es = true := by
  unfold allB
  rw [List.all_eq_true]
  intro x hx
  obtain ⟨i, hi⟩ := List.getElem?_of_mem hx
  exact h i x (by have := (List.getElem?_eq_some_iff.1 hi).1; omega) hi
theorem all_get {i : Nat} (h : allB es = true) (he : es[i]? = some e) : partB e = true := by
  unfold allB at h
  rw [List.all_eq_true] at h
  exact h e (List.mem_of_getElem? he)
theorem all_not {i : Nat} (he : es[i]? = some e) (hx : ¬ partB e = true) : allB es = false := Bool.eq_false_iff.2 fun h => hx (all_get h he)
theorem cut_pos : 0 < (cutL s).length := List.length_pos_iff.2 (cutL_ne s)
theorem cut_small : ∀ {s : List UInt8}, ∀ x ∈ cutL s, x.length ≤ s.length
  | [], x, hx => by simp [cutL] at hx; subst hx; simp
  | c :: l, x, hx => by
    by_cases h : c = 47
    · subst h
      conv at hx => unfold cutL
      simp at hx
      rcases hx with rfl | hx
      · simp
      · have := cut_small x hx; simp; omega
    · rw [cutL_cons h] at hx
      cases hc : cutL l with
      | nil => exact absurd hc (cutL_ne l)
      | cons y t =>
        rw [hc] at hx
        rcases List.mem_cons.1 hx with rfl | hx
        · have := cut_small (s := l) y (by rw [hc]; simp); simp; omega
        · have := cut_small (s := l) x (by rw [hc]; exact List.mem_cons_of_mem _ hx); simp; omega
theorem cut_len : ∀ {s : List UInt8}, (cutL s).length ≤ s.length + 1
  | [] => by simp [cutL]
  | c :: l => by
    have ih := cut_len (s := l)
    by_cases h : c = 47
    · subst h
      conv => lhs; unfold cutL
      simp; omega
    · rw [cutL_cons h]
      cases hc : cutL l with
      | nil => simp
      | cons y t => rw [hc] at ih; simp at ih ⊢; omega
theorem noSl_zero : NoSl l k k := fun i h1 h2 => by omega
theorem noSl_step (h : NoSl l j k) (hx : ¬ byteAt l k = 47) : NoSl l j (k + 1) := fun i h1 h2 => by
  by_cases hik : i = k
  · subst hik; exact hx
  · exact h i h1 (by omega)
theorem noSl_mem {m : Nat} (h : NoSl l j (j + m)) (h0 : 0 ≤ j) : ∀ c ∈ (l.drop j.toNat).take m, c ≠ 47 := by
  intro c hc e
  obtain ⟨i, hi, hx⟩ := List.getElem_of_mem hc
  rw [List.length_take, List.length_drop] at hi
  rw [List.getElem_take, List.getElem_drop] at hx
  refine h (j + i) (by omega) (by omega) ?_
  unfold byteAt
  rw [show (j + (i : Int)).toNat = j.toNat + i by omega, List.getD_eq_getElem?_getD, List.getElem?_eq_getElem (by omega), Option.getD_some, hx, e]; rfl
theorem cut_step (h : cutL s = L ++ cutL (s.drop j.toNat)) (hN : NoSl s j k) (h0 : 0 ≤ j) (h1 : j ≤ k) (hk : k < s.length) (h47 : byteAt s k = 47) : cutL s = (L ++ [sub s j k]) ++ cutL (s.drop (k + 1).toNat) := by
  have hm : ((k.toNat - j.toNat : Nat) : Int) = k - j := by omega
  have h2 := cut_at (m := k.toNat - j.toNat) (l := s.drop j.toNat) (noSl_mem (by rw [hm]; simpa [show j + (k - j) = k by omega] using hN) h0) (by
    rw [List.getElem?_drop, show j.toNat + (k.toNat - j.toNat) = k.toNat by omega, List.getElem?_eq_getElem (by omega)]
    unfold byteAt at h47
    rw [List.getD_eq_getElem?_getD, List.getElem?_eq_getElem (by omega), Option.getD_some] at h47
    congr 1
    exact UInt8.toNat_inj.1 (by simpa using (show s[k.toNat].toNat = 47 by omega)))
  rw [h, h2, List.append_assoc, List.singleton_append]
  congr 2
  · unfold sub; rw [List.drop_take]
  · rw [List.drop_drop]; congr 2; omega
theorem cut_end (h : cutL s = L ++ cutL (s.drop j.toNat)) (hN : NoSl s j k) (h0 : 0 ≤ j) (h1 : j ≤ k) (hk : (s.length : Int) ≤ k) : cutL s = L ++ [s.drop j.toNat] := by
  rw [h, cut_none]
  have := noSl_mem (l := s) (j := j) (m := k.toNat - j.toNat) (by rw [show j + ((k.toNat - j.toNat : Nat) : Int) = k by omega]; exact hN) h0
  rwa [List.take_of_length_le (by rw [List.length_drop]; omega)] at this
theorem validB_iff : validB s = true ↔ (s.length : Int) ≤ 12 ∧ allB (cutL s) = true := by unfold validB; rw [Bool.and_eq_true, decide_eq_true_eq]
theorem parts_ok (h : validB s = true) : partsL s = cutL s := if_pos h
theorem parts_bad (h : ¬ validB s = true) : partsL s = [] := if_neg h
theorem preB_iff : preB a b = true ↔ (b.length : Int) ≤ a.length ∧ a.take b.length = b := by unfold preB; rw [Bool.and_eq_true, decide_eq_true_eq, decide_eq_true_eq]
theorem pre_sl : preB a (b ++ [47]) = true ↔ (b.length : Int) < a.length ∧ a.take b.length = b ∧ byteAt a b.length = 47 := by
  rw [preB_iff]
  have e : byteAt a b.length = ((a.getD b.length 0).toNat : Int) := by unfold byteAt; rw [Int.toNat_natCast]
  rw [e, List.length_append, List.length_singleton]
  constructor
  · rintro ⟨h1, h2⟩
    have hl : b.length < a.length := by omega
    rw [List.take_add_one, List.getElem?_eq_getElem hl] at h2
    obtain ⟨h3, h4⟩ := List.append_inj h2 (by rw [List.length_take]; omega)
    refine ⟨by omega, h3, ?_⟩
    rw [List.getD_eq_getElem?_getD, List.getElem?_eq_getElem hl, Option.getD_some]
    simp at h4
    rw [h4]; rfl
  · rintro ⟨h1, h2, h3⟩
    have hl : b.length < a.length := by omega
    refine ⟨by omega, ?_⟩
    rw [List.take_add_one, List.getElem?_eq_getElem hl, h2]
    rw [List.getD_eq_getElem?_getD, List.getElem?_eq_getElem hl, Option.getD_some] at h3
    have : a[b.length] = 47 := UInt8.toNat_inj.1 (by simpa using (show a[b.length].toNat = 47 by omega))
    rw [this]; rfl
theorem clash_iff : clashB a b = true ↔ (validB a = true ∧ validB b = true) ∧ (preB a (b ++ [47]) = true ∨ preB b (a ++ [47]) = true) := by unfold clashB; simp [Bool.and_eq_true, Bool.or_eq_true]
end
set_option maxRecDepth 100000 in
/-- spec.l5Part -/
theorem l5Part_ok (s : List UInt8) (w0 : World) (hs : (s.length : Int) ≤ 1048576) :
    Calls Tryd.prog 45 #[.string (bs (s))] w0 fun e w => e = .returned (.bool (decide (partB s = true))) ∧ Own w0 [] [] w := by
  have O := Own.start w0
  refine enterO (n := 55) Tryd.func45 rfl rfl rfl O fun a w F O => ?_
  refine c_seq fun K1 hK1 => c_region (sp F (p_assign rfl) rfl rfl fun a F => c_nil (hK1 _ _ (?_)))
  try clear hK1 K1
  refine c_seq fun K2 hK2 => c_seq fun K3 hK3 => c_region (sp F (p_assign rfl) rfl rfl fun a F => c_nil (hK3 _ _ (?_)))
  try clear hK3 K3
  refine wp_block (?_)
  refine c_loop (fun mm a w => ∃ (k : Int), mm = ((s.length : Int) - k).toNat ∧ Has 55 [(0, .string (bs (s))), (3, .int .i64 (k))] a ∧ Own w0 [] [] w ∧ (0 ≤ k) ∧ (k ≤ s.length) ∧ (GoodTo k s)) ?_ ?_
  · have F : Has 55 [(0, .string (bs (s))), (3, .int .i64 (0))] a := F.pick ⟨rfl, rfl, trivial⟩
    exact ⟨((s.length : Int) - 0).toNat, 0, rfl, F, O, by first | assumption | omega, by first | assumption | omega, by exact goodTo_zero⟩
  · rintro mm a w ⟨k, rfl, F, O, hi0a, hi0b, hi0c⟩
    refine c_seq fun K4 hK4 => c_seq fun K5 hK5 => c_region (sp F (p_move rfl) rfl rfl fun a F => sp F (p_move rfl) rfl rfl fun a F => sp F (p_len_b rfl Tryd.underlying9) rfl rfl fun a F => sp F (p_lss rfl rfl) rfl rfl fun a F => c_nil (hK5 _ _ (?_)))
    try clear hK5 K5
    by_cases c8 : k < (s.length : Int)
    · have F := F.setB (d := 8) rfl (decide_eq_true c8)
      refine c_ift F rfl (wp_skip (hK4 _ _ (?_)))
      try clear hK4 K4
      refine c_seq fun K6 hK6 => wp_block (c_seq fun K7 hK7 => c_region (sp F (p_move rfl) rfl rfl fun a F => sp F (p_move rfl) rfl rfl fun a F => sp F (p_index rfl rfl Tryd.underlying9 (by omega) (by omega)) rfl rfl fun a F => sp F (p_geq rfl rfl) rfl rfl fun a F => sp F (p_move rfl) rfl rfl fun a F => ?_))
      by_cases c15 : 97 ≤ (byteAt s k)
      · have F := F.setB (d := 14) rfl (decide_eq_true c15)
        have F := F.setB (d := 15) rfl (decide_eq_true c15)
        refine sp F (p_move rfl) rfl rfl fun a F => sp F (p_move rfl) rfl rfl fun a F => sp F (p_index rfl rfl Tryd.underlying9 (by omega) (by omega)) rfl rfl fun a F => sp F (p_leq rfl rfl) rfl rfl fun a F => sp F (p_pick (t := true) rfl rfl) rfl rfl fun a F => sp F (p_move rfl) rfl rfl fun a F => ?_
        by_cases c21 : (byteAt s k) ≤ 122
        · have F := F.setB (d := 19) rfl (decide_eq_true c21)
          have F := F.setB (d := 20) rfl (decide_eq_true c21)
          have F := F.setB (d := 21) rfl (decide_eq_true c21)
          refine ss F rfl rfl fun a F => ss F rfl rfl fun a F => ss F rfl rfl fun a F => ss F rfl rfl fun a F => ss F rfl rfl fun a F => ss F rfl rfl fun a F => ss F rfl rfl fun a F => ss F rfl rfl fun a F => ss F rfl rfl fun a F => ss F rfl rfl fun a F => sp F (p_pick (t := true) rfl rfl) rfl rfl fun a F => sp F (p_assign rfl) rfl rfl fun a F => c_nil (?_)
          refine hK7 _ _ (?_)
          try clear hK7 K7
          refine c_seq fun K8 hK8 => c_region (sp F (p_move rfl) rfl rfl fun a F => sp F (p_not rfl) rfl rfl fun a F => sp F (p_move rfl) rfl rfl fun a F => ss F rfl rfl fun a F => ss F rfl rfl fun a F => ss F rfl rfl fun a F => ss F rfl rfl fun a F => ss F rfl rfl fun a F => ss F rfl rfl fun a F => ss F rfl rfl fun a F => ss F rfl rfl fun a F => ?_)
          refine ss F rfl rfl fun a F => ss F rfl rfl fun a F => ss F rfl rfl fun a F => ss F rfl rfl fun a F => ss F rfl rfl fun a F => ss F rfl rfl fun a F => ss F rfl rfl fun a F => sp F (p_pick (t := false) rfl rfl) rfl rfl fun a F => c_nil (hK8 _ _ (?_))
          try clear hK8 K8
          refine c_iff F rfl (wp_skip (hK6 _ _ (?_)))
          try clear hK6 K6
          refine c_region (sp F (p_move rfl) rfl rfl fun a F => sp F (p_add rfl rfl (by omega) (by omega)) rfl rfl fun a F => sp F (p_assign rfl) rfl rfl fun a F => c_nil (?_))
          have F : Has 55 [(0, .string (bs (s))), (3, .int .i64 (k + 1))] a := F.pick ⟨rfl, rfl, trivial⟩
          exact ⟨((s.length : Int) - (k + 1)).toNat, by omega, (k + 1), rfl, F, O, by first | assumption | omega, by first | assumption | omega, by exact goodTo_step hi0c hi0a ⟨by unfold okc; omega, by omega⟩⟩
        · have F := F.setB (d := 19) rfl (decide_eq_false c21)
          have F := F.setB (d := 20) rfl (decide_eq_false c21)
          have F := F.setB (d := 21) rfl (decide_eq_false c21)
          refine sp F (p_move rfl) rfl rfl fun a F => sp F (p_move rfl) rfl rfl fun a F => sp F (p_index rfl rfl Tryd.underlying9 (by omega) (by omega)) rfl rfl fun a F => sp F (p_geq rfl rfl) rfl rfl fun a F => sp F (p_move rfl) rfl rfl fun a F => ?_
          by_cases c26 : 48 ≤ (byteAt s k)
          · have F := F.setB (d := 25) rfl (decide_eq_true c26)
            have F := F.setB (d := 26) rfl (decide_eq_true c26)
            refine sp F (p_move rfl) rfl rfl fun a F => sp F (p_move rfl) rfl rfl fun a F => sp F (p_index rfl rfl Tryd.underlying9 (by omega) (by omega)) rfl rfl fun a F => sp F (p_leq rfl rfl) rfl rfl fun a F => sp F (p_pick (t := true) rfl rfl) rfl rfl fun a F => sp F (p_pick (t := false) rfl rfl) rfl rfl fun a F => sp F (p_assign rfl) rfl rfl fun a F => c_nil (hK7 _ _ (?_))
            try clear hK7 K7
            refine c_seq fun K8 hK8 => c_region (sp F (p_move rfl) rfl rfl fun a F => ?_)
            by_cases c33 : (byteAt s k) ≤ 57
            · have F := F.setB (d := 30) rfl (decide_eq_true c33)
              have F := F.setB (d := 31) rfl (decide_eq_true c33)
              have F := F.setB (d := 32) rfl (decide_eq_true c33)
              have F := F.setB (d := 4) rfl (decide_eq_true c33)
              have F := F.setB (d := 33) rfl (decide_eq_true c33)
              refine sp F (p_not rfl) rfl rfl fun a F => sp F (p_move rfl) rfl rfl fun a F => ss F rfl rfl fun a F => ss F rfl rfl fun a F => ss F rfl rfl fun a F => ss F rfl rfl fun a F => ss F rfl rfl fun a F => ss F rfl rfl fun a F => ss F rfl rfl fun a F => ss F rfl rfl fun a F => ss F rfl rfl fun a F => ss F rfl rfl fun a F => ss F rfl rfl fun a F => ?_
              refine ss F rfl rfl fun a F => ss F rfl rfl fun a F => ss F rfl rfl fun a F => ss F rfl rfl fun a F => sp F (p_pick (t := false) rfl rfl) rfl rfl fun a F => c_nil (hK8 _ _ (?_))
              try clear hK8 K8
              refine c_iff F rfl (wp_skip (hK6 _ _ (?_)))
              try clear hK6 K6
              refine c_region (sp F (p_move rfl) rfl rfl fun a F => sp F (p_add rfl rfl (by omega) (by omega)) rfl rfl fun a F => sp F (p_assign rfl) rfl rfl fun a F => c_nil (?_))
              have F : Has 55 [(0, .string (bs (s))), (3, .int .i64 (k + 1))] a := F.pick ⟨rfl, rfl, trivial⟩
              exact ⟨((s.length : Int) - (k + 1)).toNat, by omega, (k + 1), rfl, F, O, by first | assumption | omega, by first | assumption | omega, by exact goodTo_step hi0c hi0a ⟨by unfold okc; omega, by omega⟩⟩
            · have F := F.setB (d := 30) rfl (decide_eq_false c33)
              have F := F.setB (d := 31) rfl (decide_eq_false c33)
              have F := F.setB (d := 32) rfl (decide_eq_false c33)
              have F := F.setB (d := 4) rfl (decide_eq_false c33)
              have F := F.setB (d := 33) rfl (decide_eq_false c33)
              refine sp F (p_not rfl) rfl rfl fun a F => sp F (p_move rfl) rfl rfl fun a F => sp F (p_move rfl) rfl rfl fun a F => sp F (p_move rfl) rfl rfl fun a F => sp F (p_index rfl rfl Tryd.underlying9 (by omega) (by omega)) rfl rfl fun a F => sp F (p_neq rfl rfl) rfl rfl fun a F => sp F (p_move rfl) rfl rfl fun a F => ?_
              by_cases c40 : (byteAt s k) = 45
              · have F := F.setB (d := 39) rfl (decide_eq_false (fun h => h c40))
                have F := F.setB (d := 40) rfl (decide_eq_false (fun h => h c40))
                refine sp F (p_move rfl) rfl rfl fun a F => sp F (p_eql rfl rfl) rfl rfl fun a F => sp F (p_pick (t := false) rfl rfl) rfl rfl fun a F => sp F (p_move rfl) rfl rfl fun a F => ?_
                by_cases c44 : k = 0
                · have F := F.setB (d := 42) rfl (decide_eq_true c44)
                  have F := F.setB (d := 43) rfl (decide_eq_true c44)
                  have F := F.setB (d := 44) rfl (decide_eq_true c44)
                  refine ss F rfl rfl fun a F => ss F rfl rfl fun a F => ss F rfl rfl fun a F => ss F rfl rfl fun a F => ss F rfl rfl fun a F => sp F (p_pick (t := true) rfl rfl) rfl rfl fun a F => sp F (p_pick (t := true) rfl rfl) rfl rfl fun a F => c_nil (hK8 _ _ (?_))
                  try clear hK8 K8
                  refine c_ift F rfl (c_seq fun K9 hK9 => c_region (sp F (p_assign rfl) rfl rfl fun a F => c_nil (hK9 _ _ (?_))))
                  try clear hK9 K9
                  refine wp_ret (r_block (r_then (r_then (r_block (r_then (ret1 F rfl rfl (?_)))))))
                  exact ⟨congrArg Ending.returned (show Value.bool false = .bool (decide (partB s = true)) from by exact vbf (part_not hi0a (by omega) (by unfold GoodC okc; omega))), O⟩
                · have F := F.setB (d := 42) rfl (decide_eq_false c44)
                  have F := F.setB (d := 43) rfl (decide_eq_false c44)
                  have F := F.setB (d := 44) rfl (decide_eq_false c44)
                  refine sp F (p_move rfl) rfl rfl fun a F => sp F (p_move rfl) rfl rfl fun a F => sp F (p_len_b rfl Tryd.underlying9) rfl rfl fun a F => sp F (p_sub rfl rfl (by omega) (by omega)) rfl rfl fun a F => sp F (p_eql rfl rfl) rfl rfl fun a F => sp F (p_pick (t := false) rfl rfl) rfl rfl fun a F => sp F (p_pick (t := true) rfl rfl) rfl rfl fun a F => c_nil (hK8 _ _ (?_))
                  try clear hK8 K8
                  by_cases c51 : k = ((s.length : Int) - 1)
                  · have F := F.setB (d := 49) rfl (decide_eq_true c51)
                    have F := F.setB (d := 50) rfl (decide_eq_true c51)
                    have F := F.setB (d := 51) rfl (decide_eq_true c51)
                    refine c_ift F rfl (c_seq fun K9 hK9 => c_region (sp F (p_assign rfl) rfl rfl fun a F => c_nil (hK9 _ _ (?_))))
                    try clear hK9 K9
                    refine wp_ret (r_block (r_then (r_then (r_block (r_then (ret1 F rfl rfl (?_)))))))
                    exact ⟨congrArg Ending.returned (show Value.bool false = .bool (decide (partB s = true)) from by exact vbf (part_not hi0a (by omega) (by unfold GoodC okc; omega))), O⟩
                  · have F := F.setB (d := 49) rfl (decide_eq_false c51)
                    have F := F.setB (d := 50) rfl (decide_eq_false c51)
                    have F := F.setB (d := 51) rfl (decide_eq_false c51)
                    refine c_iff F rfl (wp_skip (hK6 _ _ (?_)))
                    try clear hK6 K6
                    refine c_region (sp F (p_move rfl) rfl rfl fun a F => sp F (p_add rfl rfl (by omega) (by omega)) rfl rfl fun a F => sp F (p_assign rfl) rfl rfl fun a F => c_nil (?_))
                    have F : Has 55 [(0, .string (bs (s))), (3, .int .i64 (k + 1))] a := F.pick ⟨rfl, rfl, trivial⟩
                    exact ⟨((s.length : Int) - (k + 1)).toNat, by omega, (k + 1), rfl, F, O, by first | assumption | omega, by first | assumption | omega, by exact goodTo_step hi0c hi0a ⟨by unfold okc; omega, by omega⟩⟩
              · have F := F.setB (d := 39) rfl (decide_eq_true c40)
                have F := F.setB (d := 40) rfl (decide_eq_true c40)
                refine ss F rfl rfl fun a F => ss F rfl rfl fun a F => sp F (p_pick (t := true) rfl rfl) rfl rfl fun a F => sp F (p_move rfl) rfl rfl fun a F => ss F rfl rfl fun a F => ss F rfl rfl fun a F => ss F rfl rfl fun a F => ss F rfl rfl fun a F => ss F rfl rfl fun a F => sp F (p_pick (t := true) rfl rfl) rfl rfl fun a F => sp F (p_pick (t := true) rfl rfl) rfl rfl fun a F => c_nil (hK8 _ _ (?_))
                try clear hK8 K8
                refine c_ift F rfl (c_seq fun K9 hK9 => c_region (sp F (p_assign rfl) rfl rfl fun a F => c_nil (hK9 _ _ (?_))))
                try clear hK9 K9
                refine wp_ret (r_block (r_then (r_then (r_block (r_then (ret1 F rfl rfl (?_)))))))
                exact ⟨congrArg Ending.returned (show Value.bool false = .bool (decide (partB s = true)) from by exact vbf (part_not hi0a (by omega) (by unfold GoodC okc; omega))), O⟩
          · have F := F.setB (d := 25) rfl (decide_eq_false c26)
            have F := F.setB (d := 26) rfl (decide_eq_false c26)
            refine ss F rfl rfl fun a F => ss F rfl rfl fun a F => ss F rfl rfl fun a F => ss F rfl rfl fun a F => sp F (p_pick (t := false) rfl rfl) rfl rfl fun a F => sp F (p_pick (t := false) rfl rfl) rfl rfl fun a F => sp F (p_assign rfl) rfl rfl fun a F => c_nil (hK7 _ _ (?_))
            try clear hK7 K7
            refine c_seq fun K8 hK8 => c_region (sp F (p_move rfl) rfl rfl fun a F => sp F (p_not rfl) rfl rfl fun a F => sp F (p_move rfl) rfl rfl fun a F => sp F (p_move rfl) rfl rfl fun a F => sp F (p_move rfl) rfl rfl fun a F => sp F (p_index rfl rfl Tryd.underlying9 (by omega) (by omega)) rfl rfl fun a F => sp F (p_neq rfl rfl) rfl rfl fun a F => sp F (p_move rfl) rfl rfl fun a F => ?_)
            by_cases c40 : (byteAt s k) = 45
            · have F := F.setB (d := 39) rfl (decide_eq_false (fun h => h c40))
              have F := F.setB (d := 40) rfl (decide_eq_false (fun h => h c40))
              refine sp F (p_move rfl) rfl rfl fun a F => sp F (p_eql rfl rfl) rfl rfl fun a F => sp F (p_pick (t := false) rfl rfl) rfl rfl fun a F => sp F (p_move rfl) rfl rfl fun a F => ?_
              by_cases c44 : k = 0
              · have F := F.setB (d := 42) rfl (decide_eq_true c44)
                have F := F.setB (d := 43) rfl (decide_eq_true c44)
                have F := F.setB (d := 44) rfl (decide_eq_true c44)
                refine ss F rfl rfl fun a F => ss F rfl rfl fun a F => ss F rfl rfl fun a F => ss F rfl rfl fun a F => ss F rfl rfl fun a F => sp F (p_pick (t := true) rfl rfl) rfl rfl fun a F => sp F (p_pick (t := true) rfl rfl) rfl rfl fun a F => c_nil (hK8 _ _ (?_))
                try clear hK8 K8
                refine c_ift F rfl (c_seq fun K9 hK9 => c_region (sp F (p_assign rfl) rfl rfl fun a F => c_nil (hK9 _ _ (?_))))
                try clear hK9 K9
                refine wp_ret (r_block (r_then (r_then (r_block (r_then (ret1 F rfl rfl (?_)))))))
                exact ⟨congrArg Ending.returned (show Value.bool false = .bool (decide (partB s = true)) from by exact vbf (part_not hi0a (by omega) (by unfold GoodC okc; omega))), O⟩
              · have F := F.setB (d := 42) rfl (decide_eq_false c44)
                have F := F.setB (d := 43) rfl (decide_eq_false c44)
                have F := F.setB (d := 44) rfl (decide_eq_false c44)
                refine sp F (p_move rfl) rfl rfl fun a F => sp F (p_move rfl) rfl rfl fun a F => sp F (p_len_b rfl Tryd.underlying9) rfl rfl fun a F => sp F (p_sub rfl rfl (by omega) (by omega)) rfl rfl fun a F => sp F (p_eql rfl rfl) rfl rfl fun a F => sp F (p_pick (t := false) rfl rfl) rfl rfl fun a F => sp F (p_pick (t := true) rfl rfl) rfl rfl fun a F => c_nil (hK8 _ _ (?_))
                try clear hK8 K8
                by_cases c51 : k = ((s.length : Int) - 1)
                · have F := F.setB (d := 49) rfl (decide_eq_true c51)
                  have F := F.setB (d := 50) rfl (decide_eq_true c51)
                  have F := F.setB (d := 51) rfl (decide_eq_true c51)
                  refine c_ift F rfl (c_seq fun K9 hK9 => c_region (sp F (p_assign rfl) rfl rfl fun a F => c_nil (hK9 _ _ (?_))))
                  try clear hK9 K9
                  refine wp_ret (r_block (r_then (r_then (r_block (r_then (ret1 F rfl rfl (?_)))))))
                  exact ⟨congrArg Ending.returned (show Value.bool false = .bool (decide (partB s = true)) from by exact vbf (part_not hi0a (by omega) (by unfold GoodC okc; omega))), O⟩
                · have F := F.setB (d := 49) rfl (decide_eq_false c51)
                  have F := F.setB (d := 50) rfl (decide_eq_false c51)
                  have F := F.setB (d := 51) rfl (decide_eq_false c51)
                  refine c_iff F rfl (wp_skip (hK6 _ _ (?_)))
                  try clear hK6 K6
                  refine c_region (sp F (p_move rfl) rfl rfl fun a F => sp F (p_add rfl rfl (by omega) (by omega)) rfl rfl fun a F => sp F (p_assign rfl) rfl rfl fun a F => c_nil (?_))
                  have F : Has 55 [(0, .string (bs (s))), (3, .int .i64 (k + 1))] a := F.pick ⟨rfl, rfl, trivial⟩
                  exact ⟨((s.length : Int) - (k + 1)).toNat, by omega, (k + 1), rfl, F, O, by first | assumption | omega, by first | assumption | omega, by exact goodTo_step hi0c hi0a ⟨by unfold okc; omega, by omega⟩⟩
            · have F := F.setB (d := 39) rfl (decide_eq_true c40)
              have F := F.setB (d := 40) rfl (decide_eq_true c40)
              refine ss F rfl rfl fun a F => ss F rfl rfl fun a F => sp F (p_pick (t := true) rfl rfl) rfl rfl fun a F => sp F (p_move rfl) rfl rfl fun a F => ss F rfl rfl fun a F => ss F rfl rfl fun a F => ss F rfl rfl fun a F => ss F rfl rfl fun a F => ss F rfl rfl fun a F => sp F (p_pick (t := true) rfl rfl) rfl rfl fun a F => sp F (p_pick (t := true) rfl rfl) rfl rfl fun a F => c_nil (hK8 _ _ (?_))
              try clear hK8 K8
              refine c_ift F rfl (c_seq fun K9 hK9 => c_region (sp F (p_assign rfl) rfl rfl fun a F => c_nil (hK9 _ _ (?_))))
              try clear hK9 K9
              refine wp_ret (r_block (r_then (r_then (r_block (r_then (ret1 F rfl rfl (?_)))))))
              exact ⟨congrArg Ending.returned (show Value.bool false = .bool (decide (partB s = true)) from by exact vbf (part_not hi0a (by omega) (by unfold GoodC okc; omega))), O⟩
      · have F := F.setB (d := 14) rfl (decide_eq_false c15)
        have F := F.setB (d := 15) rfl (decide_eq_false c15)
        refine ss F rfl rfl fun a F => ss F rfl rfl fun a F => ss F rfl rfl fun a F => ss F rfl rfl fun a F => sp F (p_pick (t := false) rfl rfl) rfl rfl fun a F => sp F (p_move rfl) rfl rfl fun a F => sp F (p_move rfl) rfl rfl fun a F => sp F (p_move rfl) rfl rfl fun a F => sp F (p_index rfl rfl Tryd.underlying9 (by omega) (by omega)) rfl rfl fun a F => sp F (p_geq rfl rfl) rfl rfl fun a F => sp F (p_move rfl) rfl rfl fun a F => ?_
        by_cases c26 : 48 ≤ (byteAt s k)
        · have F := F.setB (d := 25) rfl (decide_eq_true c26)
          have F := F.setB (d := 26) rfl (decide_eq_true c26)
          refine sp F (p_move rfl) rfl rfl fun a F => sp F (p_move rfl) rfl rfl fun a F => sp F (p_index rfl rfl Tryd.underlying9 (by omega) (by omega)) rfl rfl fun a F => sp F (p_leq rfl rfl) rfl rfl fun a F => sp F (p_pick (t := true) rfl rfl) rfl rfl fun a F => sp F (p_pick (t := false) rfl rfl) rfl rfl fun a F => sp F (p_assign rfl) rfl rfl fun a F => c_nil (hK7 _ _ (?_))
          try clear hK7 K7
          refine c_seq fun K8 hK8 => c_region (sp F (p_move rfl) rfl rfl fun a F => ?_)
          by_cases c33 : (byteAt s k) ≤ 57
          · have F := F.setB (d := 30) rfl (decide_eq_true c33)
            have F := F.setB (d := 31) rfl (decide_eq_true c33)
            have F := F.setB (d := 32) rfl (decide_eq_true c33)
            have F := F.setB (d := 4) rfl (decide_eq_true c33)
            have F := F.setB (d := 33) rfl (decide_eq_true c33)
            refine sp F (p_not rfl) rfl rfl fun a F => sp F (p_move rfl) rfl rfl fun a F => ss F rfl rfl fun a F => ss F rfl rfl fun a F => ss F rfl rfl fun a F => ss F rfl rfl fun a F => ss F rfl rfl fun a F => ss F rfl rfl fun a F => ss F rfl rfl fun a F => ss F rfl rfl fun a F => ss F rfl rfl fun a F => ss F rfl rfl fun a F => ss F rfl rfl fun a F => ?_
            refine ss F rfl rfl fun a F => ss F rfl rfl fun a F => ss F rfl rfl fun a F => ss F rfl rfl fun a F => sp F (p_pick (t := false) rfl rfl) rfl rfl fun a F => c_nil (hK8 _ _ (?_))
            try clear hK8 K8
            refine c_iff F rfl (wp_skip (hK6 _ _ (?_)))
            try clear hK6 K6
            refine c_region (sp F (p_move rfl) rfl rfl fun a F => sp F (p_add rfl rfl (by omega) (by omega)) rfl rfl fun a F => sp F (p_assign rfl) rfl rfl fun a F => c_nil (?_))
            have F : Has 55 [(0, .string (bs (s))), (3, .int .i64 (k + 1))] a := F.pick ⟨rfl, rfl, trivial⟩
            exact ⟨((s.length : Int) - (k + 1)).toNat, by omega, (k + 1), rfl, F, O, by first | assumption | omega, by first | assumption | omega, by exact goodTo_step hi0c hi0a ⟨by unfold okc; omega, by omega⟩⟩
          · have F := F.setB (d := 30) rfl (decide_eq_false c33)
            have F := F.setB (d := 31) rfl (decide_eq_false c33)
            have F := F.setB (d := 32) rfl (decide_eq_false c33)
            have F := F.setB (d := 4) rfl (decide_eq_false c33)
            have F := F.setB (d := 33) rfl (decide_eq_false c33)
            refine sp F (p_not rfl) rfl rfl fun a F => sp F (p_move rfl) rfl rfl fun a F => sp F (p_move rfl) rfl rfl fun a F => sp F (p_move rfl) rfl rfl fun a F => sp F (p_index rfl rfl Tryd.underlying9 (by omega) (by omega)) rfl rfl fun a F => sp F (p_neq rfl rfl) rfl rfl fun a F => sp F (p_move rfl) rfl rfl fun a F => ?_
            by_cases c40 : (byteAt s k) = 45
            · have F := F.setB (d := 39) rfl (decide_eq_false (fun h => h c40))
              have F := F.setB (d := 40) rfl (decide_eq_false (fun h => h c40))
              refine sp F (p_move rfl) rfl rfl fun a F => sp F (p_eql rfl rfl) rfl rfl fun a F => sp F (p_pick (t := false) rfl rfl) rfl rfl fun a F => sp F (p_move rfl) rfl rfl fun a F => ?_
              by_cases c44 : k = 0
              · have F := F.setB (d := 42) rfl (decide_eq_true c44)
                have F := F.setB (d := 43) rfl (decide_eq_true c44)
                have F := F.setB (d := 44) rfl (decide_eq_true c44)
                refine ss F rfl rfl fun a F => ss F rfl rfl fun a F => ss F rfl rfl fun a F => ss F rfl rfl fun a F => ss F rfl rfl fun a F => sp F (p_pick (t := true) rfl rfl) rfl rfl fun a F => sp F (p_pick (t := true) rfl rfl) rfl rfl fun a F => c_nil (hK8 _ _ (?_))
                try clear hK8 K8
                refine c_ift F rfl (c_seq fun K9 hK9 => c_region (sp F (p_assign rfl) rfl rfl fun a F => c_nil (hK9 _ _ (?_))))
                try clear hK9 K9
                refine wp_ret (r_block (r_then (r_then (r_block (r_then (ret1 F rfl rfl (?_)))))))
                exact ⟨congrArg Ending.returned (show Value.bool false = .bool (decide (partB s = true)) from by exact vbf (part_not hi0a (by omega) (by unfold GoodC okc; omega))), O⟩
              · have F := F.setB (d := 42) rfl (decide_eq_false c44)
                have F := F.setB (d := 43) rfl (decide_eq_false c44)
                have F := F.setB (d := 44) rfl (decide_eq_false c44)
                refine sp F (p_move rfl) rfl rfl fun a F => sp F (p_move rfl) rfl rfl fun a F => sp F (p_len_b rfl Tryd.underlying9) rfl rfl fun a F => sp F (p_sub rfl rfl (by omega) (by omega)) rfl rfl fun a F => sp F (p_eql rfl rfl) rfl rfl fun a F => sp F (p_pick (t := false) rfl rfl) rfl rfl fun a F => sp F (p_pick (t := true) rfl rfl) rfl rfl fun a F => c_nil (hK8 _ _ (?_))
                try clear hK8 K8
                by_cases c51 : k = ((s.length : Int) - 1)
                · have F := F.setB (d := 49) rfl (decide_eq_true c51)
                  have F := F.setB (d := 50) rfl (decide_eq_true c51)
                  have F := F.setB (d := 51) rfl (decide_eq_true c51)
                  refine c_ift F rfl (c_seq fun K9 hK9 => c_region (sp F (p_assign rfl) rfl rfl fun a F => c_nil (hK9 _ _ (?_))))
                  try clear hK9 K9
                  refine wp_ret (r_block (r_then (r_then (r_block (r_then (ret1 F rfl rfl (?_)))))))
                  exact ⟨congrArg Ending.returned (show Value.bool false = .bool (decide (partB s = true)) from by exact vbf (part_not hi0a (by omega) (by unfold GoodC okc; omega))), O⟩
                · have F := F.setB (d := 49) rfl (decide_eq_false c51)
                  have F := F.setB (d := 50) rfl (decide_eq_false c51)
                  have F := F.setB (d := 51) rfl (decide_eq_false c51)
                  refine c_iff F rfl (wp_skip (hK6 _ _ (?_)))
                  try clear hK6 K6
                  refine c_region (sp F (p_move rfl) rfl rfl fun a F => sp F (p_add rfl rfl (by omega) (by omega)) rfl rfl fun a F => sp F (p_assign rfl) rfl rfl fun a F => c_nil (?_))
                  have F : Has 55 [(0, .string (bs (s))), (3, .int .i64 (k + 1))] a := F.pick ⟨rfl, rfl, trivial⟩
                  exact ⟨((s.length : Int) - (k + 1)).toNat, by omega, (k + 1), rfl, F, O, by first | assumption | omega, by first | assumption | omega, by exact goodTo_step hi0c hi0a ⟨by unfold okc; omega, by omega⟩⟩
            · have F := F.setB (d := 39) rfl (decide_eq_true c40)
              have F := F.setB (d := 40) rfl (decide_eq_true c40)
              refine ss F rfl rfl fun a F => ss F rfl rfl fun a F => sp F (p_pick (t := true) rfl rfl) rfl rfl fun a F => sp F (p_move rfl) rfl rfl fun a F => ss F rfl rfl fun a F => ss F rfl rfl fun a F => ss F rfl rfl fun a F => ss F rfl rfl fun a F => ss F rfl rfl fun a F => sp F (p_pick (t := true) rfl rfl) rfl rfl fun a F => sp F (p_pick (t := true) rfl rfl) rfl rfl fun a F => c_nil (hK8 _ _ (?_))
              try clear hK8 K8
              refine c_ift F rfl (c_seq fun K9 hK9 => c_region (sp F (p_assign rfl) rfl rfl fun a F => c_nil (hK9 _ _ (?_))))
              try clear hK9 K9
              refine wp_ret (r_block (r_then (r_then (r_block (r_then (ret1 F rfl rfl (?_)))))))
              exact ⟨congrArg Ending.returned (show Value.bool false = .bool (decide (partB s = true)) from by exact vbf (part_not hi0a (by omega) (by unfold GoodC okc; omega))), O⟩
        · have F := F.setB (d := 25) rfl (decide_eq_false c26)
          have F := F.setB (d := 26) rfl (decide_eq_false c26)
          refine ss F rfl rfl fun a F => ss F rfl rfl fun a F => ss F rfl rfl fun a F => ss F rfl rfl fun a F => sp F (p_pick (t := false) rfl rfl) rfl rfl fun a F => sp F (p_pick (t := false) rfl rfl) rfl rfl fun a F => sp F (p_assign rfl) rfl rfl fun a F => c_nil (hK7 _ _ (?_))
          try clear hK7 K7
          refine c_seq fun K8 hK8 => c_region (sp F (p_move rfl) rfl rfl fun a F => sp F (p_not rfl) rfl rfl fun a F => sp F (p_move rfl) rfl rfl fun a F => sp F (p_move rfl) rfl rfl fun a F => sp F (p_move rfl) rfl rfl fun a F => sp F (p_index rfl rfl Tryd.underlying9 (by omega) (by omega)) rfl rfl fun a F => sp F (p_neq rfl rfl) rfl rfl fun a F => sp F (p_move rfl) rfl rfl fun a F => ?_)
          by_cases c40 : (byteAt s k) = 45
          · have F := F.setB (d := 39) rfl (decide_eq_false (fun h => h c40))
            have F := F.setB (d := 40) rfl (decide_eq_false (fun h => h c40))
            refine sp F (p_move rfl) rfl rfl fun a F => sp F (p_eql rfl rfl) rfl rfl fun a F => sp F (p_pick (t := false) rfl rfl) rfl rfl fun a F => sp F (p_move rfl) rfl rfl fun a F => ?_
            by_cases c44 : k = 0
            · have F := F.setB (d := 42) rfl (decide_eq_true c44)
              have F := F.setB (d := 43) rfl (decide_eq_true c44)
              have F := F.setB (d := 44) rfl (decide_eq_true c44)
              refine ss F rfl rfl fun a F => ss F rfl rfl fun a F => ss F rfl rfl fun a F => ss F rfl rfl fun a F => ss F rfl rfl fun a F => sp F (p_pick (t := true) rfl rfl) rfl rfl fun a F => sp F (p_pick (t := true) rfl rfl) rfl rfl fun a F => c_nil (hK8 _ _ (?_))
              try clear hK8 K8
              refine c_ift F rfl (c_seq fun K9 hK9 => c_region (sp F (p_assign rfl) rfl rfl fun a F => c_nil (hK9 _ _ (?_))))
              try clear hK9 K9
              refine wp_ret (r_block (r_then (r_then (r_block (r_then (ret1 F rfl rfl (?_)))))))
              exact ⟨congrArg Ending.returned (show Value.bool false = .bool (decide (partB s = true)) from by exact vbf (part_not hi0a (by omega) (by unfold GoodC okc; omega))), O⟩
            · have F := F.setB (d := 42) rfl (decide_eq_false c44)
              have F := F.setB (d := 43) rfl (decide_eq_false c44)
              have F := F.setB (d := 44) rfl (decide_eq_false c44)
              refine sp F (p_move rfl) rfl rfl fun a F => sp F (p_move rfl) rfl rfl fun a F => sp F (p_len_b rfl Tryd.underlying9) rfl rfl fun a F => sp F (p_sub rfl rfl (by omega) (by omega)) rfl rfl fun a F => sp F (p_eql rfl rfl) rfl rfl fun a F => sp F (p_pick (t := false) rfl rfl) rfl rfl fun a F => sp F (p_pick (t := true) rfl rfl) rfl rfl fun a F => c_nil (hK8 _ _ (?_))
              try clear hK8 K8
              by_cases c51 : k = ((s.length : Int) - 1)
              · have F := F.setB (d := 49) rfl (decide_eq_true c51)
                have F := F.setB (d := 50) rfl (decide_eq_true c51)
                have F := F.setB (d := 51) rfl (decide_eq_true c51)
                refine c_ift F rfl (c_seq fun K9 hK9 => c_region (sp F (p_assign rfl) rfl rfl fun a F => c_nil (hK9 _ _ (?_))))
                try clear hK9 K9
                refine wp_ret (r_block (r_then (r_then (r_block (r_then (ret1 F rfl rfl (?_)))))))
                exact ⟨congrArg Ending.returned (show Value.bool false = .bool (decide (partB s = true)) from by exact vbf (part_not hi0a (by omega) (by unfold GoodC okc; omega))), O⟩
              · have F := F.setB (d := 49) rfl (decide_eq_false c51)
                have F := F.setB (d := 50) rfl (decide_eq_false c51)
                have F := F.setB (d := 51) rfl (decide_eq_false c51)
                refine c_iff F rfl (wp_skip (hK6 _ _ (?_)))
                try clear hK6 K6
                refine c_region (sp F (p_move rfl) rfl rfl fun a F => sp F (p_add rfl rfl (by omega) (by omega)) rfl rfl fun a F => sp F (p_assign rfl) rfl rfl fun a F => c_nil (?_))
                have F : Has 55 [(0, .string (bs (s))), (3, .int .i64 (k + 1))] a := F.pick ⟨rfl, rfl, trivial⟩
                exact ⟨((s.length : Int) - (k + 1)).toNat, by omega, (k + 1), rfl, F, O, by first | assumption | omega, by first | assumption | omega, by exact goodTo_step hi0c hi0a ⟨by unfold okc; omega, by omega⟩⟩
          · have F := F.setB (d := 39) rfl (decide_eq_true c40)
            have F := F.setB (d := 40) rfl (decide_eq_true c40)
            refine ss F rfl rfl fun a F => ss F rfl rfl fun a F => sp F (p_pick (t := true) rfl rfl) rfl rfl fun a F => sp F (p_move rfl) rfl rfl fun a F => ss F rfl rfl fun a F => ss F rfl rfl fun a F => ss F rfl rfl fun a F => ss F rfl rfl fun a F => ss F rfl rfl fun a F => sp F (p_pick (t := true) rfl rfl) rfl rfl fun a F => sp F (p_pick (t := true) rfl rfl) rfl rfl fun a F => c_nil (hK8 _ _ (?_))
            try clear hK8 K8
            refine c_ift F rfl (c_seq fun K9 hK9 => c_region (sp F (p_assign rfl) rfl rfl fun a F => c_nil (hK9 _ _ (?_))))
            try clear hK9 K9
            refine wp_ret (r_block (r_then (r_then (r_block (r_then (ret1 F rfl rfl (?_)))))))
            exact ⟨congrArg Ending.returned (show Value.bool false = .bool (decide (partB s = true)) from by exact vbf (part_not hi0a (by omega) (by unfold GoodC okc; omega))), O⟩
    · have F := F.setB (d := 8) rfl (decide_eq_false c8)
      refine c_iff F rfl (wp_exit (e_then (e_then (e_here (hK2 _ _ (?_))))))
      try clear hK2 K2
      refine c_seq fun K6 hK6 => c_region (sp F (p_move rfl) rfl rfl fun a F => sp F (p_len_b rfl Tryd.underlying9) rfl rfl fun a F => sp F (p_gtr rfl rfl) rfl rfl fun a F => sp F (p_assign rfl) rfl rfl fun a F => c_nil (hK6 _ _ (?_)))
      try clear hK6 K6
      refine wp_ret (ret1 F rfl rfl (?_))
      exact ⟨congrArg Ending.returned (show Value.bool (decide (0 < (s.length : Int))) = .bool (decide (partB s = true)) from by exact vbi (by rw [partB_iff, show (s.length : Int) = k by omega]; constructor <;> intro h <;> first | exact ⟨by omega, hi0c⟩ | omega)), O⟩

set_option maxRecDepth 100000 in
/-- impl.partOk -/
theorem partOk_ok (s : List UInt8) (w0 : World) (hs : (s.length : Int) ≤ 1048576) :
    Calls Tryd.prog 43 #[.string (bs (s))] w0 fun e w => e = .returned (.bool (decide (partB s = true))) ∧ Own w0 [] [] w := by
  have O := Own.start w0
  refine enterO (n := 21) Tryd.func43 rfl rfl rfl O fun a w F O => ?_
  refine c_seq fun K1 hK1 => c_region (sp F (p_assign rfl) rfl rfl fun a F => c_nil (hK1 _ _ (?_)))
  try clear hK1 K1
  refine c_seq fun K2 hK2 => c_seq fun K3 hK3 => c_region (sp F (p_move rfl) rfl rfl fun a F => sp F (p_seq rfl rfl) rfl rfl fun a F => sp F (p_move rfl) rfl rfl fun a F => ?_)
  by_cases c5 : s = ([])
  · have F := F.setB (d := 4) rfl (decide_eq_true c5)
    have F := F.setB (d := 5) rfl (decide_eq_true c5)
    refine ss F rfl rfl fun a F => ss F rfl rfl fun a F => ss F rfl rfl fun a F => sp F (p_pick (t := true) rfl rfl) rfl rfl fun a F => sp F (p_move rfl) rfl rfl fun a F => ss F rfl rfl fun a F => ss F rfl rfl fun a F => ss F rfl rfl fun a F => ss F rfl rfl fun a F => ?_
    try have h9 := List.length_pos_iff.2 c5
    refine ss F rfl rfl fun a F => ss F rfl rfl fun a F => sp F (p_pick (t := true) rfl rfl) rfl rfl fun a F => c_nil (hK3 _ _ (?_))
    try clear hK3 K3
    refine c_ift F rfl (c_seq fun K4 hK4 => c_region (sp F (p_assign rfl) rfl rfl fun a F => c_nil (hK4 _ _ (?_))))
    try clear hK4 K4
    refine wp_ret (r_then (ret1 F rfl rfl (?_)))
    exact ⟨congrArg Ending.returned (show Value.bool false = .bool (decide (partB s = true)) from by first | exact vbf (part_nil c5) | exact vbf (part_head c5 c10) | exact vbf (part_last c5 c17)), O⟩
  · have F := F.setB (d := 4) rfl (decide_eq_false c5)
    have F := F.setB (d := 5) rfl (decide_eq_false c5)
    refine sp F (p_move rfl) rfl rfl fun a F => sp F (p_index rfl rfl Tryd.underlying9 (by omega) (by (have h9 := List.length_pos_iff.2 c5; omega))) rfl rfl fun a F => sp F (p_eql rfl rfl) rfl rfl fun a F => sp F (p_pick (t := false) rfl rfl) rfl rfl fun a F => sp F (p_move rfl) rfl rfl fun a F => ?_
    by_cases c10 : (byteAt s 0) = 45
    · have F := F.setB (d := 8) rfl (decide_eq_true c10)
      have F := F.setB (d := 9) rfl (decide_eq_true c10)
      have F := F.setB (d := 10) rfl (decide_eq_true c10)
      refine ss F rfl rfl fun a F => ss F rfl rfl fun a F => ss F rfl rfl fun a F => ss F rfl rfl fun a F => ?_
      try have h9 := List.length_pos_iff.2 c5
      refine ss F rfl rfl fun a F => ss F rfl rfl fun a F => sp F (p_pick (t := true) rfl rfl) rfl rfl fun a F => c_nil (hK3 _ _ (?_))
      try clear hK3 K3
      refine c_ift F rfl (c_seq fun K4 hK4 => c_region (sp F (p_assign rfl) rfl rfl fun a F => c_nil (hK4 _ _ (?_))))
      try clear hK4 K4
      refine wp_ret (r_then (ret1 F rfl rfl (?_)))
      exact ⟨congrArg Ending.returned (show Value.bool false = .bool (decide (partB s = true)) from by first | exact vbf (part_nil c5) | exact vbf (part_head c5 c10) | exact vbf (part_last c5 c17)), O⟩
    · have F := F.setB (d := 8) rfl (decide_eq_false c10)
      have F := F.setB (d := 9) rfl (decide_eq_false c10)
      have F := F.setB (d := 10) rfl (decide_eq_false c10)
      refine sp F (p_move rfl) rfl rfl fun a F => sp F (p_move rfl) rfl rfl fun a F => sp F (p_len_b rfl Tryd.underlying9) rfl rfl fun a F => sp F (p_sub rfl rfl (by omega) (by omega)) rfl rfl fun a F => ?_
      try have h9 := List.length_pos_iff.2 c5
      refine sp F (p_index rfl rfl Tryd.underlying9 (by omega) (by (have h9 := List.length_pos_iff.2 c5; omega))) rfl rfl fun a F => sp F (p_eql rfl rfl) rfl rfl fun a F => sp F (p_pick (t := false) rfl rfl) rfl rfl fun a F => c_nil (hK3 _ _ (?_))
      try clear hK3 K3
      by_cases c17 : (byteAt s ((s.length : Int) - 1)) = 45
      · have F := F.setB (d := 16) rfl (decide_eq_true c17)
        have F := F.setB (d := 17) rfl (decide_eq_true c17)
        refine c_ift F rfl (c_seq fun K4 hK4 => c_region (sp F (p_assign rfl) rfl rfl fun a F => c_nil (hK4 _ _ (?_))))
        try clear hK4 K4
        refine wp_ret (r_then (ret1 F rfl rfl (?_)))
        exact ⟨congrArg Ending.returned (show Value.bool false = .bool (decide (partB s = true)) from by first | exact vbf (part_nil c5) | exact vbf (part_head c5 c10) | exact vbf (part_last c5 c17)), O⟩
      · have F := F.setB (d := 16) rfl (decide_eq_false c17)
        have F := F.setB (d := 17) rfl (decide_eq_false c17)
        refine c_iff F rfl (wp_skip (hK2 _ _ (?_)))
        try clear hK2 K2
        refine c_seq fun K4 hK4 => c_region (sp F (p_move rfl) rfl rfl fun a F => so F rfl (o_call (vs := #[.string (bs (s)), .string (bs ([97, 98, 99, 100, 101, 102, 103, 104, 105, 106, 107, 108, 109, 110, 111, 112, 113, 114, 115, 116, 117, 118, 119, 120, 121, 122, 48, 49, 50, 51, 52, 53, 54, 55, 56, 57, 45]))]) F Tryd.en_50 rfl rfl ((trim_ok s w (by first | omega | assumption | (simp; omega) | (exact hE _ (List.mem_of_getElem? (by assumption))) | (have := cut_small _ (List.mem_of_getElem? (by assumption)); omega))).mono ?_)))
        rintro e w ⟨rfl, K⟩
        refine ⟨_, rfl, fun a F => ?_⟩
        have O : Own w0 [] [] w := O.call0 K
        clear K
        have O : Own w0 [] [] w := O
        refine sp F (p_seq rfl rfl) rfl rfl fun a F => sp F (p_assign rfl) rfl rfl fun a F => c_nil (hK4 _ _ (?_))
        try clear hK4 K4
        refine wp_ret (ret1 F rfl rfl (?_))
        exact ⟨congrArg Ending.returned (show Value.bool (decide ((Lib.trimS s alphaL) = ([]))) = .bool (decide (partB s = true)) from by exact vbi (part_trim c5 c10 c17)), O⟩

set_option maxRecDepth 100000 in
/-- impl.NameValid$1 -/
theorem validCl_ok (s : List UInt8) (w0 : World) (hs : (s.length : Int) ≤ 1048576) :
    Calls Tryd.prog 42 #[.string (bs (s))] w0 fun e w => e = .returned (.bool (decide (¬ partB s = true))) ∧ Own w0 [] [] w := by
  have O := Own.start w0
  refine enterO (n := 6) Tryd.func42 rfl rfl rfl O fun a w F O => ?_
  refine c_seq fun K1 hK1 => c_region (sp F (p_assign rfl) rfl rfl fun a F => c_nil (hK1 _ _ (?_)))
  try clear hK1 K1
  refine c_seq fun K2 hK2 => c_region (sp F (p_move rfl) rfl rfl fun a F => so F rfl (o_call (vs := #[.string (bs (s))]) F Tryd.en_43 rfl rfl ((partOk_ok s w (by first | omega | assumption | (simp; omega) | (exact hE _ (List.mem_of_getElem? (by assumption))) | (have := cut_small _ (List.mem_of_getElem? (by assumption)); omega))).mono ?_)))
  rintro e w ⟨rfl, K⟩
  refine ⟨_, rfl, fun a F => ?_⟩
  have O : Own w0 [] [] w := O.call0 K
  clear K
  have O : Own w0 [] [] w := O
  by_cases c4 : partB s = true
  · have F := F.setB (d := 4) rfl (decide_eq_true c4)
    refine sp F (p_not rfl) rfl rfl fun a F => sp F (p_assign rfl) rfl rfl fun a F => c_nil (hK2 _ _ (?_))
    try clear hK2 K2
    refine wp_ret (ret1 F rfl rfl (?_))
    exact ⟨congrArg Ending.returned (show Value.bool false = .bool (decide (¬ partB s = true)) from by exact vbf (not_not_intro c4)), O⟩
  · have F := F.setB (d := 4) rfl (decide_eq_false c4)
    refine sp F (p_not rfl) rfl rfl fun a F => sp F (p_assign rfl) rfl rfl fun a F => c_nil (hK2 _ _ (?_))
    try clear hK2 K2
    refine wp_ret (ret1 F rfl rfl (?_))
    exact ⟨congrArg Ending.returned (show Value.bool true = .bool (decide (¬ partB s = true)) from by exact vbt c4), O⟩

set_option maxRecDepth 100000 in
/-- slices.IndexFunc[[]string,string] -/
theorem indexParts_ok (A : Option Addr) (n : Nat) (c : Nat) (es : List (List UInt8)) (w0 : World) (hA : Arr w0 encStr 1 A es) (hn : (n : Int) = es.length) (hb : (n : Int) ≤ 1048600) (hE : ∀ x ∈ es, (x.length : Int) ≤ 1048576) :
    Calls Tryd.prog 48 #[.slice A n c, .func (.func 42) #[] #[]] w0 fun e w => ∃ (r : Int), e = .returned (.int .i64 (r)) ∧ ((r = -1 ∧ allB es = true) ∨ (0 ≤ r ∧ allB es = false)) ∧ Own w0 [] [] w := by
  have O := Own.start w0
  refine enterO (n := 19) Tryd.func48 rfl rfl rfl O fun a w F O => ?_
  refine c_seq fun K1 hK1 => c_region (sp F (p_assign rfl) rfl rfl fun a F => c_nil (hK1 _ _ (?_)))
  try clear hK1 K1
  refine c_seq fun K2 hK2 => c_seq fun K3 hK3 => c_region (sp F (p_move rfl) rfl rfl fun a F => sp F (p_len_l rfl Tryd.underlying28) rfl rfl fun a F => sp F (p_move rfl) rfl rfl fun a F => c_nil (hK3 _ _ (?_)))
  try clear hK3 K3
  refine wp_block (?_)
  refine c_loop (fun mm a w => ∃ (k : Int), mm = ((n : Int) - k).toNat ∧ Has 19 [(0, .slice A n c), (1, .func (.func 42) #[] #[]), (7, .int .i64 ((n : Int))), (8, .int .i64 (k))] a ∧ Own w0 [] [] w ∧ (0 ≤ k) ∧ (k ≤ n) ∧ (OkTo k es)) ?_ ?_
  · have F : Has 19 [(0, .slice A n c), (1, .func (.func 42) #[] #[]), (7, .int .i64 ((n : Int))), (8, .int .i64 (0))] a := F.pick ⟨rfl, rfl, rfl, rfl, trivial⟩
    exact ⟨((n : Int) - 0).toNat, 0, rfl, F, O, by first | assumption | omega, by first | assumption | omega, by exact okTo_zero⟩
  · rintro mm a w ⟨k, rfl, F, O, hi0a, hi0b, hi0c⟩
    refine c_seq fun K4 hK4 => c_region (sp F (p_lss rfl rfl) rfl rfl fun a F => c_nil (hK4 _ _ (?_)))
    try clear hK4 K4
    refine c_seq fun K5 hK5 => ?_
    by_cases c9 : k < (n : Int)
    · have F := F.setB (d := 9) rfl (decide_eq_true c9)
      refine c_ift F rfl (wp_skip (hK5 _ _ (?_)))
      try clear hK5 K5
      refine c_seq fun K6 hK6 => wp_block (c_seq fun K7 hK7 => c_region (sp F (p_move rfl) rfl rfl fun a F => sp F (p_assign rfl) rfl rfl fun a F => c_nil (hK7 _ _ (?_))))
      try clear hK7 K7
      refine c_seq fun K8 hK8 => c_region (sp F (p_move rfl) rfl rfl fun a F => sp F (p_move rfl) rfl rfl fun a F => sp F (p_move rfl) rfl rfl fun a F => ?_)
      obtain ⟨b14, o14, hp14, hb14, hc14⟩ := Arr.out hA (by omega)
      have hA14 := hA; rw [hp14] at hA14 F
      obtain ⟨e14, he14⟩ := get_some (l := es) (i := k) (by omega) (by first | omega | (simp; omega))
      refine sp F (p_iaddr rfl rfl Tryd.underlying28 Tryd.sz_9 (by omega) (by omega)) rfl rfl fun a F => sp F (p_load rfl Tryd.agg_9 (fun _ h => (ld1 (((O.old hb14 (by simp)).trans (hc14 _ _ he14 0 _ rfl))) h))) rfl rfl fun a F => so F rfl (o_callv (vs := #[.string (bs (e14))]) (lb := #[]) F rfl (by simp) Tryd.en_42 rfl rfl ((validCl_ok e14 w (by first | omega | assumption | (simp; omega) | (exact hE _ (List.mem_of_getElem? (by assumption))) | (have := cut_small _ (List.mem_of_getElem? (by assumption)); omega))).mono ?_))
      rintro e w ⟨rfl, K⟩
      refine ⟨_, rfl, fun a F => ?_⟩
      have O : Own w0 [] [] w := O.call0 K
      clear K
      have O : Own w0 [] [] w := O
      refine c_nil (hK8 _ _ (?_))
      try clear hK8 K8
      by_cases c16 : ¬ partB e14 = true
      · have F := F.setB (d := 16) rfl (decide_eq_true c16)
        refine c_ift F rfl (c_seq fun K9 hK9 => c_region (sp F (p_move rfl) rfl rfl fun a F => sp F (p_assign rfl) rfl rfl fun a F => c_nil (hK9 _ _ (?_))))
        try clear hK9 K9
        refine wp_ret (r_block (r_then (r_then (r_block (r_then (ret1 F rfl rfl (?_)))))))
        exact ⟨k, rfl, by exact .inr ⟨by omega, all_not he14 c16⟩, O⟩
      · have F := F.setB (d := 16) rfl (decide_eq_false c16)
        refine c_iff F rfl (wp_skip (hK6 _ _ (?_)))
        try clear hK6 K6
        refine c_region (sp F (p_add rfl rfl (by omega) (by omega)) rfl rfl fun a F => sp F (p_move rfl) rfl rfl fun a F => c_nil (?_))
        try rw [← hp14] at F
        try rw [← hp14] at O
        have F : Has 19 [(0, .slice A n c), (1, .func (.func 42) #[] #[]), (7, .int .i64 ((n : Int))), (8, .int .i64 (k + 1))] a := F.pick ⟨rfl, rfl, rfl, rfl, trivial⟩
        exact ⟨((n : Int) - (k + 1)).toNat, by omega, (k + 1), rfl, F, O, by first | assumption | omega, by first | assumption | omega, by exact okTo_step hi0c hi0a he14 (Decidable.not_not.1 c16)⟩
    · have F := F.setB (d := 9) rfl (decide_eq_false c9)
      refine c_iff F rfl (wp_exit (e_then (e_then (e_here (hK2 _ _ (?_))))))
      try clear hK2 K2
      refine c_seq fun K6 hK6 => c_region (sp F (p_assign rfl) rfl rfl fun a F => c_nil (hK6 _ _ (?_)))
      try clear hK6 K6
      refine wp_ret (ret1 F rfl rfl (?_))
      exact ⟨(-1), congrArg Ending.returned (show Value.int .i64 (-1) = .int .i64 ((-1)) from by first | exact vint (by omega) | exact vint (by simp; done)), by exact .inl ⟨rfl, okTo_all hi0c (by omega)⟩, O⟩

set_option maxRecDepth 100000 in
/-- slices.ContainsFunc[[]string,string] -/
theorem containsParts_ok (A : Option Addr) (n : Nat) (c : Nat) (es : List (List UInt8)) (w0 : World) (hA : Arr w0 encStr 1 A es) (hn : (n : Int) = es.length) (hb : (n : Int) ≤ 1048600) (hE : ∀ x ∈ es, (x.length : Int) ≤ 1048576) :
    Calls Tryd.prog 40 #[.slice A n c, .func (.func 42) #[] #[]] w0 fun e w => e = .returned (.bool (decide (allB es = false))) ∧ Own w0 [] [] w := by
  have O := Own.start w0
  refine enterO (n := 9) Tryd.func40 rfl rfl rfl O fun a w F O => ?_
  refine c_seq fun K1 hK1 => c_region (sp F (p_assign rfl) rfl rfl fun a F => c_nil (hK1 _ _ (?_)))
  try clear hK1 K1
  refine c_seq fun K2 hK2 => c_region (sp F (p_move rfl) rfl rfl fun a F => sp F (p_move rfl) rfl rfl fun a F => so F rfl (o_call (vs := #[.slice A n c, .func (.func 42) #[] #[]]) F Tryd.en_48 rfl rfl ((indexParts_ok A n c es w (hA.keep O) (by first | omega | (simp; done) | (simp; omega) | (simp at *; omega)) (by omega) (by first | assumption | (intro x hx; have := cut_small x hx; omega))).mono ?_)))
  rintro e w ⟨r7, rfl, h7a, K⟩
  refine ⟨_, rfl, fun a F => ?_⟩
  have O : Own w0 [] [] w := O.call0 K
  clear K
  have O : Own w0 [] [] w := O
  refine sp F (p_geq rfl rfl) rfl rfl fun a F => sp F (p_assign rfl) rfl rfl fun a F => c_nil (hK2 _ _ (?_))
  try clear hK2 K2
  refine wp_ret (ret1 F rfl rfl (?_))
  exact ⟨congrArg Ending.returned (show Value.bool (decide (0 ≤ r7)) = .bool (decide (allB es = false)) from by exact vbi ⟨fun h => by rcases h7a with h1 | h1 <;> first | exact h1.2 | omega, fun h => by rcases h7a with h1 | h1 <;> first | omega | exact absurd (h1.2.symm.trans h) (by decide)⟩), O⟩

set_option maxRecDepth 100000 in
/-- spec.l5Cut -/
theorem l5Cut_ok (s : List UInt8) (w0 : World) (hs : (s.length : Int) ≤ 1048576) :
    Calls Tryd.prog 39 #[.string (bs (s))] w0 fun e w => ∃ (P : Option Addr), ∃ (N : Nat), ∃ (C : Nat), e = .returned (.slice P N C) ∧ ((N : Int) = (cutL s).length) ∧ ((N : Int) ≤ 1048600) ∧ Own w0 [] [.row 9 1 (.slice P N C) N ((cutL s).flatMap encStr)] w := by
  have O := Own.start w0
  refine enterO (n := 32) Tryd.func39 rfl rfl rfl O fun a w F O => ?_
  refine c_seq fun K1 hK1 => c_region (sp F (p_assign rfl) rfl rfl fun a F => c_nil (hK1 _ _ (?_)))
  try clear hK1 K1
  refine c_seq fun K2 hK2 => c_region (so F rfl (o_bslice (cs := []) F O rfl Tryd.underlying28 Tryd.sz_9 Tryd.zero_9 rfl rfl rfl fun b6 w O a F => ?_))
  have O : Own w0 [] [.cells b6 [] 9] w := O
  refine sp F (p_assign rfl) rfl rfl fun a F => c_nil (hK2 _ _ (?_))
  try clear hK2 K2
  refine c_seq fun K3 hK3 => c_region (sp F (p_assign rfl) rfl rfl fun a F => c_nil (hK3 _ _ (?_)))
  try clear hK3 K3
  refine c_seq fun K4 hK4 => c_seq fun K5 hK5 => c_region (sp F (p_assign rfl) rfl rfl fun a F => c_nil (hK5 _ _ (?_)))
  try clear hK5 K5
  refine wp_block (?_)
  refine c_loop (fun mm a w => ∃ (k : Int), ∃ (j : Int), ∃ (P : Option Addr), ∃ (N : Nat), ∃ (C : Nat), ∃ (L1 : List (List UInt8)), mm = ((s.length : Int) - k).toNat ∧ Has 32 [(0, .string (bs (s))), (2, .slice none 0 0), (5, .int .i64 (k)), (4, .int .i64 (j)), (3, .slice P N C)] a ∧ Own w0 [] [.row 9 1 (.slice P N C) N (L1.flatMap encStr)] w ∧ (0 ≤ k) ∧ (k ≤ s.length) ∧ ((N : Int) = L1.length) ∧ ((N : Int) ≤ k) ∧ (0 ≤ j) ∧ (j ≤ k) ∧ (cutL s = L1 ++ cutL (s.drop (j : Int).toNat)) ∧ (NoSl s j k)) ?_ ?_
  · have F : Has 32 [(0, .string (bs (s))), (2, .slice none 0 0), (5, .int .i64 (0)), (4, .int .i64 (0)), (3, .slice (some ⟨b6, 0, none⟩) 0 0)] a := F.pick ⟨rfl, rfl, rfl, rfl, rfl, trivial⟩
    have O := O.asRow 0 (q := 0) (sz := 1) rfl rfl (by unfold maxLen; omega)
    have O : Own w0 [] [.row 9 1 (.slice (some ⟨b6, 0, none⟩) 0 0) 0 ([])] w := O
    have O := O.setR 0 rfl (show Res.row 9 1 (.slice (some ⟨b6, 0, none⟩) 0 0) 0 ([]) = .row 9 1 (.slice (some ⟨b6, 0, none⟩) 0 0) 0 (([]).flatMap encStr) from by rfl)
    have O : Own w0 [] [.row 9 1 (.slice (some ⟨b6, 0, none⟩) 0 0) 0 (([]).flatMap encStr)] w := O
    exact ⟨((s.length : Int) - 0).toNat, 0, 0, (some ⟨b6, 0, none⟩), 0, 0, ([]), rfl, F, O, by first | assumption | omega, by first | assumption | omega, by rfl, by first | assumption | omega, by first | assumption | omega, by first | assumption | omega, by rfl, by exact noSl_zero⟩
  · rintro mm a w ⟨k, j, P, N, C, L1, rfl, F, O, hi0a, hi0b, hi0c, hi0d, hi0e, hi0f, hi0g, hi0h⟩
    refine c_seq fun K6 hK6 => c_seq fun K7 hK7 => c_region (sp F (p_move rfl) rfl rfl fun a F => sp F (p_move rfl) rfl rfl fun a F => sp F (p_len_b rfl Tryd.underlying9) rfl rfl fun a F => sp F (p_lss rfl rfl) rfl rfl fun a F => c_nil (hK7 _ _ (?_)))
    try clear hK7 K7
    by_cases c10 : k < (s.length : Int)
    · have F := F.setB (d := 10) rfl (decide_eq_true c10)
      refine c_ift F rfl (wp_skip (hK6 _ _ (?_)))
      try clear hK6 K6
      refine c_seq fun K8 hK8 => wp_block (c_seq fun K9 hK9 => c_region (sp F (p_move rfl) rfl rfl fun a F => sp F (p_move rfl) rfl rfl fun a F => sp F (p_index rfl rfl Tryd.underlying9 (by omega) (by omega)) rfl rfl fun a F => sp F (p_eql rfl rfl) rfl rfl fun a F => c_nil (hK9 _ _ (?_))))
      try clear hK9 K9
      by_cases c16 : (byteAt s k) = 47
      · have F := F.setB (d := 16) rfl (decide_eq_true c16)
        refine c_ift F rfl (c_seq fun K10 hK10 => c_region (sp F (p_move rfl) rfl rfl fun a F => sp F (p_move rfl) rfl rfl fun a F => sp F (p_move rfl) rfl rfl fun a F => sp F (p_move rfl) rfl rfl fun a F => sp F (p_ssub rfl rfl rfl Tryd.underlying9 (by omega) (by omega) (by omega)) rfl rfl fun a F => so F rfl (o_bslice (cs := [.string (bs (sub s j k))]) F O rfl Tryd.underlying28 Tryd.sz_9 Tryd.zero_9 rfl rfl rfl fun b22 w O a F => ?_)))
        have O : Own w0 [] [.cells b22 [.string (bs (sub s j k))] 9, .row 9 1 (.slice P N C) N (L1.flatMap encStr)] w := O
        refine so F rfl (o_append F O rfl rfl Tryd.underlying28 Tryd.elem_9 (by decide) 1 0 rfl rfl rfl rfl (by unfold maxLen; omega) (by omega) rfl fun p23 k23 w O a F => ?_)
        have O : Own w0 [] [.cells b22 [.string (bs (sub s j k))] 9, .row 9 1 (.slice p23 (N + 1) k23) (N + 1) ((L1.flatMap encStr) ++ [.string (bs (sub s j k))])] w := O
        have O := O.setR 1 rfl (show Res.row 9 1 (.slice p23 (N + 1) k23) (N + 1) ((L1.flatMap encStr) ++ [.string (bs (sub s j k))]) = .row 9 1 (.slice p23 (N + 1) k23) (N + 1) ((L1 ++ [sub s j k]).flatMap encStr) from by simp [encStr])
        have O : Own w0 [] [.cells b22 [.string (bs (sub s j k))] 9, .row 9 1 (.slice p23 (N + 1) k23) (N + 1) ((L1 ++ [sub s j k]).flatMap encStr)] w := O
        refine sp F (p_assign rfl) rfl rfl fun a F => c_nil (hK10 _ _ (?_))
        try clear hK10 K10
        refine c_region (sp F (p_move rfl) rfl rfl fun a F => sp F (p_add rfl rfl (by omega) (by omega)) rfl rfl fun a F => sp F (p_assign rfl) rfl rfl fun a F => c_nil (hK8 _ _ (?_)))
        try clear hK8 K8
        refine c_region (sp F (p_move rfl) rfl rfl fun a F => sp F (p_add rfl rfl (by omega) (by omega)) rfl rfl fun a F => sp F (p_assign rfl) rfl rfl fun a F => c_nil (?_))
        have F : Has 32 [(0, .string (bs (s))), (2, .slice none 0 0), (5, .int .i64 (k + 1)), (4, .int .i64 (k + 1)), (3, .slice p23 (N + 1) k23)] a := F.pick ⟨rfl, rfl, rfl, rfl, rfl, trivial⟩
        have O : Own w0 [] [.row 9 1 (.slice p23 (N + 1) k23) (N + 1) ((L1 ++ [sub s j k]).flatMap encStr)] w := ((O.pull 1 rfl).take 1)
        exact ⟨((s.length : Int) - (k + 1)).toNat, by omega, (k + 1), (k + 1), p23, (N + 1), k23, (L1 ++ [sub s j k]), rfl, F, O, by first | assumption | omega, by first | assumption | omega, by first | omega | (simp; omega), by first | assumption | omega, by first | assumption | omega, by first | assumption | omega, by first | assumption | exact cut_step hi0g hi0h hi0e hi0f (by omega) c16, by first | exact noSl_zero | exact noSl_step hi0h c16⟩
      · have F := F.setB (d := 16) rfl (decide_eq_false c16)
        refine c_iff F rfl (wp_skip (hK8 _ _ (?_)))
        try clear hK8 K8
        refine c_region (sp F (p_move rfl) rfl rfl fun a F => sp F (p_add rfl rfl (by omega) (by omega)) rfl rfl fun a F => sp F (p_assign rfl) rfl rfl fun a F => c_nil (?_))
        have F : Has 32 [(0, .string (bs (s))), (2, .slice none 0 0), (5, .int .i64 (k + 1)), (4, .int .i64 (j)), (3, .slice P N C)] a := F.pick ⟨rfl, rfl, rfl, rfl, rfl, trivial⟩
        exact ⟨((s.length : Int) - (k + 1)).toNat, by omega, (k + 1), j, P, N, C, L1, rfl, F, O, by first | assumption | omega, by first | assumption | omega, by first | omega | (simp; omega), by first | assumption | omega, by first | assumption | omega, by first | assumption | omega, by first | assumption | exact cut_step hi0g hi0h hi0e hi0f (by omega) c16, by first | exact noSl_zero | exact noSl_step hi0h c16⟩
    · have F := F.setB (d := 10) rfl (decide_eq_false c10)
      refine c_iff F rfl (wp_exit (e_then (e_then (e_here (hK4 _ _ (?_))))))
      try clear hK4 K4
      refine c_seq fun K8 hK8 => c_region (sp F (p_move rfl) rfl rfl fun a F => sp F (p_move rfl) rfl rfl fun a F => sp F (p_move rfl) rfl rfl fun a F => sp F (p_sfrom rfl rfl Tryd.underlying9 (by omega) (by omega)) rfl rfl fun a F => so F rfl (o_bslice (cs := [.string (bs (s.drop (j : Int).toNat))]) F O rfl Tryd.underlying28 Tryd.sz_9 Tryd.zero_9 rfl rfl rfl fun b30 w O a F => ?_))
      have O : Own w0 [] [.cells b30 [.string (bs (s.drop (j : Int).toNat))] 9, .row 9 1 (.slice P N C) N (L1.flatMap encStr)] w := O
      refine so F rfl (o_append F O rfl rfl Tryd.underlying28 Tryd.elem_9 (by decide) 1 0 rfl rfl rfl rfl (by unfold maxLen; omega) (by omega) rfl fun p31 k31 w O a F => ?_)
      have O : Own w0 [] [.cells b30 [.string (bs (s.drop (j : Int).toNat))] 9, .row 9 1 (.slice p31 (N + 1) k31) (N + 1) ((L1.flatMap encStr) ++ [.string (bs (s.drop (j : Int).toNat))])] w := O
      have O := O.setR 1 rfl (show Res.row 9 1 (.slice p31 (N + 1) k31) (N + 1) ((L1.flatMap encStr) ++ [.string (bs (s.drop (j : Int).toNat))]) = .row 9 1 (.slice p31 (N + 1) k31) (N + 1) ((L1 ++ [s.drop (j : Int).toNat]).flatMap encStr) from by simp [encStr])
      have O : Own w0 [] [.cells b30 [.string (bs (s.drop (j : Int).toNat))] 9, .row 9 1 (.slice p31 (N + 1) k31) (N + 1) ((L1 ++ [s.drop (j : Int).toNat]).flatMap encStr)] w := O
      refine sp F (p_assign rfl) rfl rfl fun a F => c_nil (hK8 _ _ (?_))
      try clear hK8 K8
      refine wp_ret (ret1 F rfl rfl (?_))
      have O := O.setR 1 rfl (show Res.row 9 1 (.slice p31 (N + 1) k31) (N + 1) ((L1 ++ [s.drop (j : Int).toNat]).flatMap encStr) = .row 9 1 (.slice p31 (N + 1) k31) (N + 1) ((cutL s).flatMap encStr) from by rw [cut_end hi0g hi0h hi0e hi0f (by omega)])
      have O : Own w0 [] [.cells b30 [.string (bs (s.drop (j : Int).toNat))] 9, .row 9 1 (.slice p31 (N + 1) k31) (N + 1) ((cutL s).flatMap encStr)] w := O
      have O : Own w0 [] [.row 9 1 (.slice p31 (N + 1) k31) (N + 1) ((cutL s).flatMap encStr)] w := ((O.pull 1 rfl).take 1)
      exact ⟨p31, (N + 1), k31, rfl, by rw [cut_end hi0g hi0h hi0e hi0f (by omega)]; first | omega | (simp; omega), by first | omega | (simp; omega), O⟩

end Go.Proofs.YtjmnnogpinggmaaDoor
