/- The contracts of strings.Split at "/" and of strings.Trim at the letters of a name, in this seat's own words; plain laws on texts cut at each "/". No conditions but those said. -/
import Derived.Test.YtjmnnogpinggmaaDoorLib
import Derived.Test.YtjmnnogpinggmaaDoorPick
import Derived.Test.YtjmnnogpinggmaaDoorG2
namespace Go.Proofs.YtjmnnogpinggmaaDoor
set_option linter.unusedVariables false
set_option linter.unusedSimpArgs false
open Go.RowKit Go.Shelf Go.Proofs

def cutL : List UInt8 → List (List UInt8)
  | [] => [[]]
  | c :: l => if c = 47 then [] :: cutL l else match cutL l with
    | [] => [[c]]
    | h :: t => (c :: h) :: t
theorem cutL_ne (l : List UInt8) : cutL l ≠ [] := by
  cases l with
  | nil => simp [cutL]
  | cons c l => unfold cutL; split; simp; split <;> simp
theorem index_ne {b : UInt8} {l : List UInt8} (h : b ≠ 47) : Lib.index (b :: l) [47] = if Lib.index l [47] == -1 then -1 else Lib.index l [47] + 1 := by
  have hp : ([47] : List UInt8).isPrefixOf (b :: l) = false := by simp [List.isPrefixOf, Ne.symm h]
  rw [Lib.index, hp]; simp
theorem index_eq {l : List UInt8} : Lib.index (47 :: l) [47] = 0 := by rw [Lib.index]; simp [List.isPrefixOf]
theorem splitK_cons {b : UInt8} (h : b ≠ 47) : ∀ (k : Nat) (l : List UInt8), Lib.splitK [47] 0 k (b :: l) = match Lib.splitK [47] 0 k l with
    | [] => [[b]]
    | h :: t => (b :: h) :: t
  | 0, l => rfl
  | k + 1, l => by
    unfold Lib.splitK
    rw [index_ne h]
    by_cases hm : Lib.index l [47] = -1
    · simp [hm]
    · have hge := Lib.index_ge l [47]
      obtain ⟨j, hj⟩ : ∃ j : Nat, Lib.index l [47] = j := ⟨(Lib.index l [47]).toNat, by omega⟩
      have e1 : ((j : Int) == -1) = false := by simp
      have e2 : ((j : Int) + 1 == -1) = false := by rw [beq_eq_false_iff_ne]; omega
      rw [hj]
      simp only [e1, e2, Bool.false_eq_true, if_false]
      have e3 : ((j : Int) + 1).toNat = j + 1 := by omega
      simp [e3, Nat.add_right_comm]
theorem split_cut : ∀ l : List UInt8, Lib.splitK [47] 0 (Lib.count l [47]) l = cutL l
  | [] => by rw [Lib.count_miss (by simp [Lib.index])]; rfl
  | b :: l => by
    by_cases h : b = 47
    · subst h
      rw [Lib.count_cons_eq, Nat.add_comm]
      unfold Lib.splitK
      rw [index_eq]
      unfold cutL
      rw [if_pos rfl, ← split_cut l]
      simp
    · rw [Lib.count_cons_ne b 47 l h, splitK_cons h, split_cut l]
      conv => rhs; unfold cutL
      rw [if_neg h]
theorem cutL_cons {c : UInt8} {l : List UInt8} (h : c ≠ 47) : cutL (c :: l) = match cutL l with
    | [] => [[c]]
    | h :: t => (c :: h) :: t := by
  conv => lhs; unfold cutL
  rw [if_neg h]
theorem cut_none : ∀ {l : List UInt8}, (∀ c ∈ l, c ≠ 47) → cutL l = [l]
  | [], _ => rfl
  | c :: l, h => by rw [cutL_cons (h c (List.mem_cons_self ..)), cut_none fun x hx => h x (List.mem_cons_of_mem _ hx)]
theorem cut_at : ∀ {m : Nat} {l : List UInt8}, (∀ c ∈ l.take m, c ≠ 47) → l[m]? = some 47 → cutL l = l.take m :: cutL (l.drop (m + 1))
  | 0, [], _, h => by simp at h
  | 0, c :: l, _, h => by
    simp at h; subst h
    conv => lhs; unfold cutL
    simp
  | m + 1, [], _, h => by simp at h
  | m + 1, c :: l, h, hm => by
    rw [cutL_cons (h c (by simp)), cut_at (m := m) (l := l) (fun x hx => h x (by simp [hx])) (by simpa using hm)]
    simp

theorem split_ok (s : List UInt8) (m0 : Int) (w0 : World) (hs : (s.length : Int) ≤ 1048576) (hl_0 : 0 < w0.heap.size) (hm_0_0 : w0.cell? ⟨0, 0, none⟩ = some (.int .i64 (m0))) :
    Calls Tryd.prog 41 #[.string (bs s), .string (bs [47])] w0 fun e w => ∃ (b : Nat), e = .returned (.slice (some ⟨b, 0, none⟩) (cutL s).length (cutL s).length) ∧ Own w0 [] [.row 9 1 (.slice (some ⟨b, 0, none⟩) (cutL s).length (cutL s).length) (cutL s).length ((cutL s).flatMap encStr)] w := by
  refine (split_c (bs s) (bs [47]) m0 w0 (by simp [bs, ByteArray.size]; omega) hm_0_0 (by decide)).mono fun e w ⟨he, hw⟩ => ?_
  have h1 := Lib.splitB_data (bs [47]) 0 (Lib.countB (bs s) (bs [47])) (bs s)
  have h2 : Lib.countB (bs s) (bs [47]) = Lib.count s [47] := by simp [Lib.countB, bs]
  have h3 : (Lib.splitB (bs [47]) 0 (Lib.countB (bs s) (bs [47])) (bs s)).map (·.data.toList) = cutL s := by
    rw [h1, h2]; simpa [bs] using split_cut s
  have h4 : Lib.countB (bs s) (bs [47]) + 1 = (cutL s).length := by
    rw [← h3, List.length_map, Lib.splitB_all (bs [47]) (by decide) 0 _ (bs s) rfl]
  have h5 : (Lib.splitB (bs [47]) 0 (Lib.countB (bs s) (bs [47])) (bs s)).map Value.string = (cutL s).flatMap encStr := by
    rw [← h3, List.flatMap_map]
    generalize Lib.splitB (bs [47]) 0 (Lib.countB (bs s) (bs [47])) (bs s) = L
    induction L with
    | nil => rfl
    | cons x L ih => rw [List.map_cons, List.flatMap_cons, ih]; rfl
  rw [h4] at he
  rw [h5] at hw
  subst hw
  have O := (Own.start w0).alloc ((cutL s).flatMap encStr) 9
  have hlen : (cutL s).length ≤ s.length + 1 := by
    rw [← h4, h2]
    have := Lib.countB_le (bs [47]) (by decide) _ (bs s) (Nat.le_refl _)
    rw [h2] at this
    have h9 : (bs s).size = s.length := by simp [bs, ByteArray.size]
    omega
  have O2 := O.asRow 0 rfl (q := (cutL s).length) (sz := 1) (by have := flat_len encStr_len (cutL s); omega) (by unfold maxLen; omega)
  exact ⟨w0.heap.size, he, O2⟩

abbrev alphaL : List UInt8 := [97, 98, 99, 100, 101, 102, 103, 104, 105, 106, 107, 108, 109, 110, 111, 112, 113, 114, 115, 116, 117, 118, 119, 120, 121, 122, 48, 49, 50, 51, 52, 53, 54, 55, 56, 57, 45]
theorem trim_ok (s : List UInt8) (w0 : World) (hs : (s.length : Int) ≤ 1048576) :
    Calls Tryd.prog 50 #[.string (bs s), .string (bs alphaL)] w0 fun e w => e = .returned (.string (bs (Lib.trimS s alphaL))) ∧ Own w0 [] [] w := by
  refine (trim_c (bs s) (bs alphaL) w0 (by simp [bs, ByteArray.size]; omega) (by decide) (ascii_of_all (by decide))).mono fun e w ⟨he, hw⟩ => ⟨he, Own.of_below hw⟩

end Go.Proofs.YtjmnnogpinggmaaDoor
