/- Plain Lean: frames of records in lists of bytes, and the reading of frames. No program in sight. -/
import Derived.Test.YtklgkfknifkbaaaKit
namespace Go.Proofs.Ytklgkfknifkbaaa
set_option linter.unusedVariables false
set_option linter.unusedSimpArgs false

/-- The check of a record, from a number on. -/
def chkFrom (n : Nat) (l : List UInt8) : Nat := l.foldl (fun n b => (n * 29 + b.toNat + 1) % 251) n
/-- The check of a record. -/
def chk (l : List UInt8) : Nat := chkFrom (7 + 3 * l.length) l

theorem chkFrom_snoc (n : Nat) (l : List UInt8) (c : UInt8) : chkFrom n (l ++ [c]) = (chkFrom n l * 29 + c.toNat + 1) % 251 := by
  simp [chkFrom]
theorem chkFrom_cases (l : List UInt8) : ∀ n, l = [] ∧ chkFrom n l = n ∨ chkFrom n l < 251 := by
  induction l with
  | nil => exact fun n => .inl ⟨rfl, rfl⟩
  | cons c l ih =>
    intro n
    right
    rcases ih ((n * 29 + c.toNat + 1) % 251) with ⟨_, h⟩ | h
    · show chkFrom ((n * 29 + c.toNat + 1) % 251) l < 251
      rw [h]; omega
    · exact h
theorem chkFrom_le (n : Nat) (l : List UInt8) : chkFrom n l ≤ n + 250 := by
  rcases chkFrom_cases l n with ⟨_, h⟩ | h <;> omega
theorem chk_lt (l : List UInt8) : chk l < 256 := by
  unfold chk
  rcases chkFrom_cases l (7 + 3 * l.length) with ⟨h0, h⟩ | h
  · subst h0; simp at h ⊢; omega
  · omega

/-- A record: 1 to 12 bytes. -/
def IsRecL (r : List UInt8) : Prop := 1 ≤ r.length ∧ r.length ≤ 12
/-- The frame of a record. -/
def frameL (r : List UInt8) : List UInt8 := UInt8.ofNat r.length :: (r ++ [UInt8.ofNat (chk r)])

/-- The record of the frame with which bytes begin, if there is one. -/
def headRec : List UInt8 → Option (List UInt8)
  | [] => none
  | c :: t => if 1 ≤ c.toNat ∧ c.toNat ≤ 12 ∧ c.toNat + 1 ≤ t.length ∧ (t.getD c.toNat 0).toNat = chk (t.take c.toNat) then some (t.take c.toNat) else none

/-- The records that are read, by fuel. -/
def scanN : Nat → List UInt8 → List (List UInt8)
  | 0, _ => []
  | f + 1, l => match headRec l with
    | none => []
    | some r => r :: scanN f (l.drop (r.length + 2))
/-- The records that are read. -/
def scan (l : List UInt8) : List (List UInt8) := scanN l.length l
/-- The bytes that frames of records take. -/
def used (rs : List (List UInt8)) : Nat := (rs.map fun r => r.length + 2).sum

theorem headRec_cons (c : UInt8) (t : List UInt8) : headRec (c :: t) = if 1 ≤ c.toNat ∧ c.toNat ≤ 12 ∧ c.toNat + 1 ≤ t.length ∧ (t.getD c.toNat 0).toNat = chk (t.take c.toNat) then some (t.take c.toNat) else none := rfl

theorem headRec_some {l r : List UInt8} (h : headRec l = some r) : IsRecL r ∧ r.length + 2 ≤ l.length ∧ l = frameL r ++ l.drop (r.length + 2) := by
  cases l with
  | nil => simp [headRec] at h
  | cons c t =>
    rw [headRec_cons] at h
    by_cases hc : 1 ≤ c.toNat ∧ c.toNat ≤ 12 ∧ c.toNat + 1 ≤ t.length ∧ (t.getD c.toNat 0).toNat = chk (t.take c.toNat)
    · rw [if_pos hc] at h
      obtain ⟨h1, h2, h3, h4⟩ := hc
      injection h with h
      have hl : r.length = c.toNat := by rw [← h, List.length_take]; omega
      refine ⟨⟨by omega, by omega⟩, by rw [List.length_cons]; omega, ?_⟩
      have e1 : UInt8.ofNat r.length = c := by rw [hl]; simp
      have e2 : UInt8.ofNat (chk r) = t.getD c.toNat 0 := by rw [← h, ← h4]; simp
      have e3 : t.drop c.toNat = t.getD c.toNat 0 :: t.drop (c.toNat + 1) := by
        rw [List.drop_eq_getElem_cons (by omega)]
        simp [List.getD, List.getElem?_eq_getElem (show c.toNat < t.length by omega)]
      unfold frameL
      rw [e1, e2, hl]
      show c :: t = c :: (r ++ [t.getD c.toNat 0] ++ t.drop (c.toNat + 1))
      rw [List.append_assoc, List.singleton_append, ← e3, ← h, List.take_append_drop]
    · rw [if_neg hc] at h
      cases h

theorem headRec_frame {r : List UInt8} (h : IsRecL r) (t : List UInt8) : headRec (frameL r ++ t) = some r := by
  obtain ⟨h1, h2⟩ := h
  have e1 : (UInt8.ofNat r.length).toNat = r.length := by rw [UInt8.toNat_ofNat']; omega
  have e2 : (UInt8.ofNat (chk r)).toNat = chk r := by rw [UInt8.toNat_ofNat']; have := chk_lt r; omega
  unfold frameL
  rw [List.cons_append, List.append_assoc, headRec_cons]
  have e3 : (r ++ ([UInt8.ofNat (chk r)] ++ t)).take (UInt8.ofNat r.length).toNat = r := by rw [e1]; simp
  have e4 : (r ++ ([UInt8.ofNat (chk r)] ++ t)).getD (UInt8.ofNat r.length).toNat 0 = UInt8.ofNat (chk r) := by rw [e1]; simp
  rw [e3, e4, e2, e1, if_pos ⟨h1, h2, by simp, rfl⟩]

theorem headRec_nil : headRec [] = none := rfl

theorem scanN_stable : ∀ (f g : Nat) (l : List UInt8), l.length ≤ f → l.length ≤ g → scanN f l = scanN g l := by
  intro f
  induction f with
  | zero =>
    intro g l hf hg
    have : l = [] := List.eq_nil_of_length_eq_zero (by omega)
    subst this
    cases g <;> rfl
  | succ f ih =>
    intro g l hf hg
    cases g with
    | zero =>
      have : l = [] := List.eq_nil_of_length_eq_zero (by omega)
      subst this
      rfl
    | succ g =>
      unfold scanN
      cases h : headRec l with
      | none => rfl
      | some r =>
        have := (headRec_some h).2.1
        simp only
        rw [ih g (l.drop (r.length + 2)) (by simp; omega) (by simp; omega)]

theorem scan_none {l : List UInt8} (h : headRec l = none) : scan l = [] := by
  unfold scan
  cases l with
  | nil => rfl
  | cons c t => rw [List.length_cons, scanN, h]
theorem scan_some {l r : List UInt8} (h : headRec l = some r) : scan l = r :: scan (l.drop (r.length + 2)) := by
  unfold scan
  have h2 := (headRec_some h).2.1
  obtain ⟨m, hm⟩ : ∃ m, l.length = m + 1 := ⟨l.length - 1, by omega⟩
  rw [hm, scanN, h]
  simp only
  rw [scanN_stable m (l.drop (r.length + 2)).length _ (by simp; omega) (Nat.le_refl _)]

theorem used_nil : used [] = 0 := rfl
theorem used_snoc (rs : List (List UInt8)) (r : List UInt8) : used (rs ++ [r]) = used rs + (r.length + 2) := by simp [used]
theorem used_cons (rs : List (List UInt8)) (r : List UInt8) : used (r :: rs) = (r.length + 2) + used rs := by simp [used]
theorem used_append (a b : List (List UInt8)) : used (a ++ b) = used a + used b := by simp [used]
theorem length_used (rs : List (List UInt8)) : 2 * rs.length ≤ used rs := by
  induction rs with
  | nil => simp [used]
  | cons r rs ih => rw [used_cons]; simp; omega

/-- What the reading has come to at place k: the records so far, and what is read from there on. -/
def At (l : List UInt8) (k : Nat) (rs : List (List UInt8)) : Prop := k ≤ l.length ∧ used rs = k ∧ scan l = rs ++ scan (l.drop k)
theorem At.start (l : List UInt8) : At l 0 [] := ⟨Nat.zero_le _, rfl, by simp⟩
theorem At.next {l : List UInt8} {k : Nat} {rs : List (List UInt8)} {r : List UInt8} (h : At l k rs) (hr : headRec (l.drop k) = some r) : At l (k + r.length + 2) (rs ++ [r]) := by
  obtain ⟨h1, h2, h3⟩ := h
  have h4 := (headRec_some hr).2.1
  rw [List.length_drop] at h4
  refine ⟨by omega, by rw [used_snoc, h2]; omega, ?_⟩
  rw [h3, scan_some hr, List.drop_drop, List.append_assoc, Nat.add_assoc]
  rfl
theorem At.stop {l : List UInt8} {k : Nat} {rs : List (List UInt8)} (h : At l k rs) (hr : headRec (l.drop k) = none) : scan l = rs ∧ used (scan l) = k := by
  obtain ⟨h1, h2, h3⟩ := h
  rw [scan_none hr, List.append_nil] at h3
  exact ⟨h3, by rw [h3]; exact h2⟩

/-- Of the bytes at place k: what the reading asks, and what follows. -/
theorem head_end {l : List UInt8} {k : Nat} (h : l.length ≤ k) : headRec (l.drop k) = none := by rw [List.drop_of_length_le h]; rfl
theorem head_cons {l : List UInt8} {k : Nat} (h : k < l.length) : l.drop k = l[k] :: l.drop (k + 1) := List.drop_eq_getElem_cons h
theorem head_bad {l : List UInt8} {k : Nat} (h : k < l.length) (hn : ¬ (1 ≤ l[k].toNat ∧ l[k].toNat ≤ 12)) : headRec (l.drop k) = none := by
  rw [head_cons h, headRec_cons, if_neg (fun hc => hn ⟨hc.1, hc.2.1⟩)]
theorem head_short {l : List UInt8} {k : Nat} (h : k < l.length) (hn : l.length < k + l[k].toNat + 2) : headRec (l.drop k) = none := by
  rw [head_cons h, headRec_cons, if_neg (fun hc => by have := hc.2.2.1; rw [List.length_drop] at this; omega)]
theorem head_check {l : List UInt8} {k : Nat} (h : k < l.length) (hf : k + l[k].toNat + 2 ≤ l.length) : (l.drop (k + 1)).getD l[k].toNat 0 = l[k + 1 + l[k].toNat] := by
  simp [List.getD, List.getElem?_drop, List.getElem?_eq_getElem (show k + 1 + l[k].toNat < l.length by omega)]
theorem head_wrong {l : List UInt8} {k : Nat} (h : k < l.length) (hf : k + l[k].toNat + 2 ≤ l.length) (hn : l[k + 1 + l[k].toNat].toNat ≠ chk ((l.drop (k + 1)).take l[k].toNat)) : headRec (l.drop k) = none := by
  rw [head_cons h, headRec_cons, head_check h hf, if_neg (fun hc => hn hc.2.2.2)]
theorem head_right {l : List UInt8} {k : Nat} (h : k < l.length) (h1 : 1 ≤ l[k].toNat) (h2 : l[k].toNat ≤ 12) (hf : k + l[k].toNat + 2 ≤ l.length)
    (hn : l[k + 1 + l[k].toNat].toNat = chk ((l.drop (k + 1)).take l[k].toNat)) : headRec (l.drop k) = some ((l.drop (k + 1)).take l[k].toNat) := by
  rw [head_cons h, headRec_cons, head_check h hf, if_pos ⟨h1, h2, by rw [List.length_drop]; omega, hn⟩]

end Go.Proofs.Ytklgkfknifkbaaa
