/- Plain laws on what is read out of bytes: frames, torn and changed ones, beginnings. No conditions but those said. -/
import Derived.Test.YtklgkfknifkbaaaUsedLe
namespace Go.Proofs.Ytklgkfknifkbaaa
set_option linter.unusedVariables false
set_option linter.unusedSimpArgs false

section
variable {l t r : List UInt8} {k : Nat}
theorem headRec_take_some (h : headRec l = some r) (hk : r.length + 2 ≤ k) : headRec (l.take k) = some r := by
  obtain ⟨h1, h2, h3⟩ := headRec_some h
  have hf : (frameL r).length = r.length + 2 := by simp [frameL]
  rw [h3, List.take_append, List.take_of_length_le (by omega)]
  exact headRec_frame h1 _
theorem headRec_of_take (h : headRec (l.take k) = some r) : headRec l = some r := by
  obtain ⟨h1, h2, h3⟩ := headRec_some h
  have e : l = frameL r ++ ((l.take k).drop (r.length + 2) ++ l.drop k) := by
    rw [← List.append_assoc, ← h3, List.take_append_drop]
  rw [e]; exact headRec_frame h1 _
theorem scan_take_prefix (n : Nat) : ∀ (l : List UInt8) (k : Nat), l.length ≤ n → scan (l.take k) <+: scan l := by
  induction n with
  | zero =>
    intro l k h
    have : l = [] := List.eq_nil_of_length_eq_zero (by omega)
    subst this; simp
  | succ n ih =>
    intro l k h
    cases hh : headRec (l.take k) with
    | none => rw [scan_none hh]; exact List.nil_prefix
    | some r =>
      have h2 := headRec_of_take hh
      have h3 := (headRec_some h2).2.1
      rw [scan_some hh, scan_some h2, List.drop_take]
      rw [List.cons_prefix_cons]
      exact ⟨rfl, ih _ _ (by rw [List.length_drop]; omega)⟩
theorem scan_prefix (l : List UInt8) (k : Nat) : scan (l.take k) <+: scan l := scan_take_prefix _ l k (Nat.le_refl _)
theorem used_prefix {a b : List (List UInt8)} (h : a <+: b) : used a ≤ used b := by
  obtain ⟨c, rfl⟩ := h
  rw [used_append]; omega
theorem scan_isRec (n : Nat) : ∀ l : List UInt8, l.length ≤ n → ∀ r ∈ scan l, IsRecL r := by
  induction n with
  | zero =>
    intro l h r hr
    have : l = [] := List.eq_nil_of_length_eq_zero (by omega)
    subst this
    rw [scan_none rfl] at hr; simp at hr
  | succ n ih =>
    intro l h r hr
    cases hh : headRec l with
    | none => rw [scan_none hh] at hr; simp at hr
    | some r0 =>
      have h2 := headRec_some hh
      rw [scan_some hh] at hr
      rcases List.mem_cons.1 hr with e | e
      · rw [e]; exact h2.1
      · exact ih _ (by rw [List.length_drop]; omega) r e
theorem scan_rec (l : List UInt8) : ∀ r ∈ scan l, IsRecL r := scan_isRec _ l (Nat.le_refl _)
theorem scan_frames (rs : List (List UInt8)) (h : ∀ r ∈ rs, IsRecL r) (t : List UInt8) : scan (rs.flatMap frameL ++ t) = rs ++ scan t := by
  induction rs with
  | nil => rfl
  | cons r rs ih =>
    rw [List.flatMap_cons, List.append_assoc, scan_some (headRec_frame (h r (by simp)) _)]
    have hf : (frameL r).length = r.length + 2 := by simp [frameL]
    rw [← hf, List.drop_left, ih (fun q hq => h q (by simp [hq]))]
    rfl
theorem scan_flat (n : Nat) : ∀ l : List UInt8, l.length ≤ n → (scan l).flatMap frameL = l.take (used (scan l)) := by
  induction n with
  | zero =>
    intro l h
    have : l = [] := List.eq_nil_of_length_eq_zero (by omega)
    subst this
    rw [scan_none rfl]; rfl
  | succ n ih =>
    intro l h
    cases hh : headRec l with
    | none => rw [scan_none hh]; rfl
    | some r =>
      obtain ⟨h1, h2, h3⟩ := headRec_some hh
      rw [scan_some hh, List.flatMap_cons, used_cons, ih _ (by rw [List.length_drop]; omega)]
      have hf : (frameL r).length = r.length + 2 := by simp [frameL]
      generalize used (scan (l.drop (r.length + 2))) = u
      have h4 : l.take (r.length + 2 + u) = (frameL r ++ l.drop (r.length + 2)).take (r.length + 2 + u) := by conv => lhs; rw [h3]
      rw [h4, ← hf, List.take_length_add_append]
theorem flat_scan (l : List UInt8) : (scan l).flatMap frameL = l.take (used (scan l)) := scan_flat _ l (Nat.le_refl _)
theorem scan_again (l : List UInt8) : scan (l.take (used (scan l))) = scan l := by
  have h := scan_frames (scan l) (scan_rec l) []
  rw [List.append_nil, scan_none (l := []) rfl, List.append_nil] at h
  rw [← flat_scan, h]
theorem scan_more (l : List UInt8) (h : IsRecL r) : scan (l.take (used (scan l)) ++ frameL r) = scan l ++ [r] := by
  rw [← flat_scan, scan_frames _ (scan_rec l)]
  congr 1
  have := scan_frames [r] (by simpa using h) []
  simpa [scan_none (l := []) rfl] using this
theorem scan_frame (h : IsRecL r) : scan (frameL r) = [r] := by
  have := scan_frames [r] (by simpa using h) []
  simpa [scan_none (l := []) rfl] using this
theorem scan_torn (h : IsRecL r) (hk : k < r.length + 2) : scan ((frameL r).take k) = [] := by
  refine scan_none ?_
  cases hh : headRec ((frameL r).take k) with
  | none => rfl
  | some q =>
    have h1 := headRec_of_take hh
    have h2 := headRec_frame h []
    rw [List.append_nil] at h2
    rw [h2] at h1
    injection h1 with h1
    subst h1
    have h3 := (headRec_some hh).2.1
    rw [List.length_take] at h3
    omega
theorem chkFrom_inj (b : List UInt8) : ∀ x y : Nat, x < 251 → y < 251 → chkFrom x b = chkFrom y b → x = y := by
  induction b with
  | nil => intro x y _ _ h; exact h
  | cons c b ih =>
    intro x y hx hy h
    have h2 := ih ((x * 29 + c.toNat + 1) % 251) ((y * 29 + c.toNat + 1) % 251) (by omega) (by omega) h
    omega
theorem chk_change {a b : List UInt8} {c d : UInt8} (h : c ≠ d) (hn : c.toNat ≤ d.toNat + 3 ∧ d.toNat ≤ c.toNat + 3) : chk (a ++ c :: b) ≠ chk (a ++ d :: b) := fun e => by
  unfold chk at e
  simp only [List.length_append, List.length_cons] at e
  generalize 7 + 3 * (a.length + (b.length + 1)) = m at e
  unfold chkFrom at e
  simp only [List.foldl_append, List.foldl_cons] at e
  have h2 := chkFrom_inj b _ _ (Nat.mod_lt _ (by omega)) (Nat.mod_lt _ (by omega)) e
  have h3 : c.toNat ≠ d.toNat := fun h' => h (UInt8.toNat_inj.1 h')
  omega
theorem scan_changed {a b : List UInt8} {c d : UInt8} (h : IsRecL (a ++ c :: b)) (hc : c ≠ d) (hn : c.toNat ≤ d.toNat + 3 ∧ d.toNat ≤ c.toNat + 3) :
    scan (UInt8.ofNat (a ++ c :: b).length :: ((a ++ d :: b) ++ [UInt8.ofNat (chk (a ++ c :: b))])) = [] := by
  refine scan_none ?_
  have hlen : (a ++ d :: b).length = (a ++ c :: b).length := by simp
  have hl : (UInt8.ofNat (a ++ c :: b).length).toNat = (a ++ c :: b).length := by
    have := h.2
    simp only [UInt8.toNat_ofNat']; omega
  rw [headRec_cons, if_neg]
  rintro ⟨_, _, _, h4⟩
  rw [hl, ← hlen, List.take_left] at h4
  rw [List.getD_eq_getElem?_getD, List.getElem?_append_right (Nat.le_refl _)] at h4
  have hk := chk_lt (a ++ c :: b)
  simp only [Nat.sub_self, List.getElem?_cons_zero, Option.getD_some, UInt8.toNat_ofNat'] at h4
  exact chk_change (a := a) (b := b) hc hn (by omega)
end
end Go.Proofs.Ytklgkfknifkbaaa
