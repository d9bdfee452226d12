/- Plain laws on what is left after a failure, and on changed frames. No conditions but those said. -/
import Derived.Test.YtklgkfknifkbaaaLogL
import Derived.Test.YtklgkfknifkbaaaSText
namespace Go.Proofs.Ytklgkfknifkbaaa
open Go.ChangeShapes Go.WideShapes Go.ChangeAt Go.RowKit
set_option linter.unusedVariables false
set_option linter.unusedSimpArgs false


open Go.RowKit in
theorem Own.rowForm {w0 w : World} {X : List Nat} {Γ : List Res} (O : Own w0 X Γ w) (i : Nat) {E sz q c : Nat} {p : Option Addr} {xs : List Value} (h : Γ[i]? = some (.row E sz (.slice p q c) q xs)) : p = none ∨ ∃ b o, p = some ⟨b, o, none⟩ := by
  have hh := O.has h
  simp only [Res.holds] at hh
  rcases slice_row hh with h1 | ⟨b, h1⟩
  · exact .inl h1.1
  · exact .inr ⟨b, 0, h1⟩
section
variable {P : Program} {n : Nat} {Fr : List (Nat × Value)} {a : Act} {w w0 : World} {S : World → Prop} {X : List Nat} {Γ : List Res}
variable {ops : Array Oper} {rest : List Oper} {Q : Exit → Act → World → Prop} {K : Act → World → Prop} {op : Op} {t s yt ty d f : Nat} {pos : String} {aft : Array Edge} {g : Option (Nat × Bool)} {v : Value} {x y : Operand}
theorem o_appendXN {p p2 : Option Addr} {q c r c2 sz by' : Nat} {xs : List Value} {E : TypeId} {α : Type} {enc : α → List Value} {es : List α} (F : Has n Fr a) (O : Own w0 X Γ w) (hx : ev Fr x = some (.slice p q c)) (hy : ev Fr y = some (.slice p2 r c2))
    (ht : P.underlying t = some (.slice E)) (hE : elemB P E = some (sz, by', sz)) (hsz : 0 < sz) (i : Nat) (hr : Γ[i]? = some (.row E sz (.slice p q c) q xs)) (hA : Arr w enc sz p2 es) (hp : p2 = none ∨ ∃ b o, p2 = some ⟨b, o, none⟩) (hl : ∀ e, (enc e).length = sz) (hre : r = es.length) (h1 : ∀ e, (enc e).all (·.oneCell') = true)
    (h63 : q + r ≤ maxLen) (hby : (q + r) * by' ≤ 140737488355328) (hd : Nat.blt d n = true)
    (k : ∀ p' c' w', Own w0 X (Γ.set i (.row E sz (.slice p' (q + r) c') (q + r) (xs ++ es.flatMap enc))) w' → ∀ a', Has n ((d, .slice p' (q + r) c') :: Fr) a' → K a' w') :
    Oper.wp P ⟨some d, .call { callee := .builtin .append, args := #[x, y], argTypes := #[t, t] }, ty, pos, aft, g⟩ a w K Q := by
  rcases hp with rfl | hp
  · have hes : es = [] := by
      cases es with
      | nil => rfl
      | cons e es =>
        obtain ⟨b, o, hbo, _⟩ := hA (by simp)
        cases hbo
    subst hes
    have hr0 : r = 0 := hre
    subst hr0
    have hcap := O.rowCap i hr
    have hsi : ∃ info, P.info? E = some info := by
      unfold elemB at hE
      cases hi : P.info? E with
      | none => simp [hi] at hE
      | some info => exact ⟨info, rfl⟩
    obtain ⟨info, hi⟩ := hsi
    have hrun : (Builtin.append_ #[t, t] ty #[.slice p q c, .slice none 0 c2]).run P w = .ok (.slice p q c) w := by
      cases p <;> simp [Builtin.append_, run_underlying ht, sizeOf, typeInfo, hi, Builtin.lenOf, Builtin.firstCells, loadCells, loadCellsFrom, storeCells, hcap]
    unfold Oper.wp
    simp only [execOp, resolve, invoke, builtin, Sem.run_bind, Sem.run_pure, Result.andThen_ok, List.map_toArray, List.map_cons, List.map_nil, F.ev hx, F.ev hy, hrun]
    exact k p c w (O.setR i hr (by simp)) _ (F.put (lt_of_blt hd) _)
  · exact o_appendX F O hx hy ht hE hsz i hr hA hp hl hre h1 h63 hby hd k
end
theorem take_step {α : Type} {l : List α} {e : α} {k : Int} (h0 : 0 ≤ k) (he : l[k.toNat]? = some e) : l.take (k + 1).toNat = l.take k.toNat ++ [e] := by
  rw [show (k + 1).toNat = k.toNat + 1 by omega, List.take_add_one, he]; rfl
section
variable {l r b : List UInt8} {n k : Int}
theorem rec_of (h : ¬ lFrame r = []) : 1 ≤ (r.length : Int) ∧ (r.length : Int) ≤ 12 := by
  by_cases h2 : 1 ≤ (r.length : Int) ∧ (r.length : Int) ≤ 12
  · exact h2
  · exact absurd (lFrame_bad h2) h
theorem isRec_of (h : 1 ≤ (r.length : Int) ∧ (r.length : Int) ≤ 12) : IsRecL r := ⟨by omega, by omega⟩
theorem crL_le : ((crL l n k).length : Int) ≤ l.length := by
  unfold crL
  split
  · unfold crB; rw [List.length_take, List.length_take]; omega
  · simp
theorem scan_cr (h : CVal l n k) : scan (crL l n k) = scan (crB l n k) := by rw [crL_ok h]; exact scan_again _
theorem len_cr (h : CVal l n k) : ((crL l n k).length : Int) = crN l n k := by
  rw [crL_ok h, crN_ok h, List.length_take]
  have := used_le (crB l n k)
  omega
theorem crB_take (h : CVal l n k) {q : Int} (hq : 0 ≤ q) : crB l n k = (crB l n (k + q)).take (n + min k ((l.length : Int) - n) : Int).toNat := by
  have h1 := h.1.1; have h2 := h.1.2
  unfold crB
  rw [List.take_take, Nat.min_eq_left (by omega)]
theorem crB_zero (h : CVal l n 0) : crB l n 0 = l.take n.toNat := by
  have h1 := h.1.1; have h2 := h.1.2
  unfold crB
  congr 1; omega
theorem crB_full (hk : 0 ≤ k) : crB l l.length k = l := by
  unfold crB
  exact List.take_of_length_le (by omega)
theorem cr_full (h : (l.length : Int) ≤ 120) (hk : 0 ≤ k) : scan (crL l l.length k) = scan l := by
  rw [scan_cr ⟨by omega, hk⟩, crB_full hk]
theorem crN_bd (h : CVal l n k) : 0 ≤ crN l n k ∧ crN l n k ≤ (crL l n k).length ∧ ((crL l n k).length : Int) ≤ 120 := by
  have h1 := len_cr h
  have h2 := crL_le (l := l) (n := n) (k := k)
  have h3 := h.1.1
  omega
theorem cr_twice {q : Int} (h : CVal l n k) (hq : 0 ≤ q) : crL (crL l n k) (crN l n k) q = crL l n k ∧ crN (crL l n k) (crN l n k) q = crN l n k := by
  have h1 := len_cr h
  have h2 := crN_bd h
  have hV : CVal (crL l n k) (crN l n k) q := ⟨by omega, hq⟩
  have hB : crB (crL l n k) (crN l n k) q = crL l n k := by rw [← h1]; exact crB_full hq
  have hu : (used (scan (crL l n k)) : Int) = crN l n k := by rw [scan_cr h, crN_ok h]
  refine ⟨?_, ?_⟩
  · rw [crL_ok hV, hB]
    exact List.take_of_length_le (by omega)
  · rw [crN_ok hV, hB, hu]
theorem pre_more (h : CVal l n k) {q : Int} (hq : 0 ≤ q) : scan (crL l n k) <+: scan (crL l n (k + q)) := by
  rw [scan_cr h, scan_cr ⟨h.1, by have := h.2; omega⟩, crB_take h hq]
  exact scan_prefix _ _
theorem pre_all (h : CVal l n k) : scan (crL l n k) <+: scan l := by rw [scan_cr h]; exact scan_prefix _ _
theorem pre_old (h : CVal l n k) : scan (l.take n.toNat) <+: scan (crL l n k) := by
  have h0 : CVal l n 0 := ⟨h.1, by omega⟩
  have := pre_more h0 (q := k) h.2
  rw [scan_cr h0, crB_zero h0, Int.zero_add] at this
  exact this
theorem take_of_prefix {α : Type} {a c : List α} (h : a <+: c) : a = c.take a.length := List.prefix_iff_eq_take.1 h
theorem xor_near1 : ∀ x : Fin 256, x.val ^^^ 1 ≠ x.val ∧ x.val ^^^ 1 < 256 ∧ x.val ≤ (x.val ^^^ 1) + 3 ∧ (x.val ^^^ 1) ≤ x.val + 3 := by decide +kernel
theorem xor_near2 : ∀ x : Fin 256, x.val ^^^ 2 ≠ x.val ∧ x.val ^^^ 2 < 256 ∧ x.val ≤ (x.val ^^^ 2) + 3 ∧ (x.val ^^^ 2) ≤ x.val + 3 := by decide +kernel
theorem xor_near {x q : Nat} (hx : x < 256) (hq : q = 1 ∨ q = 2) : x ^^^ q ≠ x ∧ x ^^^ q < 256 ∧ x ≤ (x ^^^ q) + 3 ∧ (x ^^^ q) ≤ x + 3 := by
  rcases hq with rfl | rfl
  · exact xor_near1 ⟨x, hx⟩
  · exact xor_near2 ⟨x, hx⟩
theorem scan_tornL (hR : 1 ≤ (r.length : Int) ∧ (r.length : Int) ≤ 12) {j : Nat} (hj : j < r.length + 2) : scan ((lFrame r).take j) = [] := by rw [lFrame_ok hR]; exact scan_torn (isRec_of hR) hj
theorem scan_change (hI : IsRecL r) {j : Nat} (hj : j < r.length) {c : UInt8} (hc : r[j] ≠ c) (hn : (r[j]).toNat ≤ c.toNat + 3 ∧ c.toNat ≤ (r[j]).toNat + 3) : scan (((frameL r).take (j + 1) ++ [c]) ++ (frameL r).drop (j + 1 + 1)) = [] := by
  have e : r = r.take j ++ r[j] :: r.drop (j + 1) := by rw [← List.drop_eq_getElem_cons hj, List.take_append_drop]
  have e1 : (frameL r).take (j + 1) = UInt8.ofNat r.length :: r.take j := by
    unfold frameL; rw [List.take_succ_cons, List.take_append_of_le_length (by omega)]
  have e2 : (frameL r).drop (j + 1 + 1) = r.drop (j + 1) ++ [UInt8.ofNat (chk r)] := by
    unfold frameL; rw [List.drop_succ_cons, List.drop_append_of_le_length (by omega)]
  rw [e1, e2]
  have hI2 : IsRecL (r.take j ++ r[j] :: r.drop (j + 1)) := by rw [← e]; exact hI
  have := scan_changed (a := r.take j) (b := r.drop (j + 1)) (d := c) hI2 hc hn
  rw [← e] at this
  simpa using this
theorem scan_changeI (hR : 1 ≤ (r.length : Int) ∧ (r.length : Int) ≤ 12) (h1 : 1 ≤ k) (h2 : k ≤ r.length) {q : Int} (hq : q = 1 ∨ q = 2) :
    scan (((lFrame r).take (k : Int).toNat ++ [UInt8.ofNat ((((byteAt (lFrame r) k : Int).toNat ^^^ (q : Int).toNat : Nat) : Int) : Int).toNat]) ++ (lFrame r).drop (k + 1 : Int).toNat) = [] := by
  rw [lFrame_ok hR]
  obtain ⟨j, rfl⟩ : ∃ j : Nat, k = j + 1 := ⟨(k - 1).toNat, by omega⟩
  have hj : j < r.length := by omega
  have eb : (byteAt (frameL r) ((j : Int) + 1)).toNat = (r[j]).toNat := by
    unfold byteAt frameL
    rw [show ((j : Int) + 1).toNat = j + 1 by omega, List.getD_cons_succ, List.getD_eq_getElem?_getD, List.getElem?_append_left hj, List.getElem?_eq_getElem hj]
    rfl
  have hx := xor_near (x := (r[j]).toNat) (q := q.toNat) (UInt8.toNat_lt _) (by omega)
  rw [eb, show ((j : Int) + 1).toNat = j + 1 by omega, show ((j : Int) + 1 + 1).toNat = j + 1 + 1 by omega, Int.toNat_natCast]
  have ec : (UInt8.ofNat ((r[j]).toNat ^^^ q.toNat)).toNat = (r[j]).toNat ^^^ q.toNat := by rw [UInt8.toNat_ofNat']; exact Nat.mod_eq_of_lt hx.2.1
  refine scan_change (isRec_of hR) hj (fun h => hx.1 ?_) (by rw [ec]; omega)
  rw [← ec, ← h]
end
end Go.Proofs.Ytklgkfknifkbaaa
