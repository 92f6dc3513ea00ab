import Derived.Test.YtfamnoalgjkjhaaP34a
namespace Go.Proofs.Ytfamnoalgjkjhaa
set_option linter.unusedSimpArgs false
set_option linter.unusedVariables false
/-! ### plain: rotating -/
section
variable {α : Type}
def Rot (xs : List α) (a m b : Nat) (ys : List α) (i j : Int) : Prop := ∃ P X Y S : List α, ys = xs.take a ++ P ++ X ++ Y ++ S ++ xs.drop b ∧ (X.length : Int) = i ∧ (Y.length : Int) = j ∧ a + P.length + X.length = m ∧ m + Y.length + S.length = b ∧ P ++ Y ++ X ++ S = seg xs m b ++ seg xs a m ∧ X ≠ [] ∧ Y ≠ []
theorem len_ne {X : List α} (h : 0 < X.length) : X ≠ [] := by intro e; subst e; simp at h
theorem rot_start {xs : List α} {a m b : Nat} (h1 : a < m) (h2 : m < b) (h3 : b ≤ xs.length) : Rot xs a m b xs ((m : Int) - (a : Int)) ((b : Int) - (m : Int)) := by
  have e1 : (seg xs a m).length = m - a := seg_len (by omega)
  have e2 : (seg xs m b).length = b - m := seg_len (by omega)
  refine ⟨[], seg xs a m, seg xs m b, [], ?_, by omega, by omega, by simp; omega, by simp; omega, by simp, len_ne (by omega), len_ne (by omega)⟩
  conv => lhs; rw [cut3 (xs := xs) (a := a) (b := b) (by omega), seg_split (m := m) (by omega) (by omega)]
  simp
theorem rot_pos {xs ys : List α} {a m b : Nat} {i j : Int} (h : Rot xs a m b ys i j) (hb : b ≤ xs.length) : 0 < i ∧ 0 < j ∧ i ≤ m ∧ m + j ≤ b ∧ ys.length = xs.length := by
  obtain ⟨P, X, Y, S, rfl, rfl, rfl, h1, h2, h3, h4, h5⟩ := h
  have := List.length_pos_iff.2 h4
  have := List.length_pos_iff.2 h5
  have := congrArg List.length h3
  simp [seg] at this ⊢
  omega
theorem rot_gt {xs ys zs : List α} {a m b : Nat} {i j : Int} (h : Rot xs a m b ys i j) (hb : b ≤ xs.length) (hij : j < i) (hs : Swp ys ((m : Int) - i).toNat m j.toNat zs) : Rot xs a m b zs (i - j) j := by
  obtain ⟨P, X, Y, S, rfl, rfl, rfl, h1, h2, h3, h4, h5⟩ := h
  have hx : X = X.take Y.length ++ X.drop Y.length := (List.take_append_drop _ _).symm
  have e1 : (X.take Y.length).length = Y.length := by simp; omega
  have e2 : (X.drop Y.length).length = X.length - Y.length := by simp
  generalize X.take Y.length = X1 at *
  generalize X.drop Y.length = X2 at *
  subst hx
  have hp : 0 < X2.length := by simp at *; omega
  have hle : a ≤ xs.length := by
    have := congrArg List.length h3
    simp [seg] at this; simp at h1 hij; omega
  have := swp_eq (A := xs.take a ++ P) (S := X1) (M := X2) (T := Y) (B := S ++ xs.drop b) (ys := zs) (a := ((m : Int) - ((X1 ++ X2).length : Int)).toNat) (b := m) (n := Y.length) (by simpa using hs) (by simp at h1 ⊢; omega) e1.symm rfl (by simp at h1 ⊢; omega)
  subst this
  refine ⟨P ++ Y, X2, X1, S, by simp, by simp; omega, by omega, by simp at h1 ⊢; omega, by simp at h1 ⊢; omega, ?_, len_ne hp, len_ne (by rw [e1]; exact List.length_pos_iff.2 h5)⟩
  rw [← h3]; simp
theorem rot_lt {xs ys zs : List α} {a m b : Nat} {i j : Int} (h : Rot xs a m b ys i j) (hb : b ≤ xs.length) (hij : i < j) (hs : Swp ys ((m : Int) - i).toNat ((m : Int) + j - i).toNat i.toNat zs) : Rot xs a m b zs i (j - i) := by
  obtain ⟨P, X, Y, S, rfl, rfl, rfl, h1, h2, h3, h4, h5⟩ := h
  have hx : Y = Y.take (Y.length - X.length) ++ Y.drop (Y.length - X.length) := (List.take_append_drop _ _).symm
  have e1 : (Y.take (Y.length - X.length)).length = Y.length - X.length := by simp
  have e2 : (Y.drop (Y.length - X.length)).length = X.length := by simp; omega
  generalize Y.take (Y.length - X.length) = Y1 at *
  generalize Y.drop (Y.length - X.length) = Y2 at *
  subst hx
  have hp : 0 < Y1.length := by simp at *; omega
  have hle : a ≤ xs.length := by
    have := congrArg List.length h3
    simp [seg] at this; simp at h1 hij; omega
  have := swp_eq (A := xs.take a ++ P) (S := X) (M := Y1) (T := Y2) (B := S ++ xs.drop b) (ys := zs) (a := ((m : Int) - (X.length : Int)).toNat) (b := ((m : Int) + ((Y1 ++ Y2).length : Int) - (X.length : Int)).toNat) (n := X.length) (by simpa using hs) (by simp at h1 ⊢; omega) rfl e2.symm (by simp at h1 ⊢; omega)
  subst this
  refine ⟨P, Y2, Y1, X ++ S, by simp, by omega, by simp; omega, by omega, by simp at h2 ⊢; omega, ?_, len_ne (by rw [e2]; exact List.length_pos_iff.2 h4), len_ne hp⟩
  rw [← h3]; simp
theorem rot_end {xs ys zs : List α} {a m b : Nat} {i j : Int} (h : Rot xs a m b ys i j) (hb : b ≤ xs.length) (hij : i = j) (hs : Swp ys ((m : Int) - i).toNat m i.toNat zs) : zs = xs.take a ++ seg xs m b ++ seg xs a m ++ xs.drop b := by
  obtain ⟨P, X, Y, S, rfl, rfl, rfl, h1, h2, h3, h4, h5⟩ := h
  have hle : a ≤ xs.length := by
    have := congrArg List.length h3
    simp [seg] at this; omega
  have := swp_eq (A := xs.take a ++ P) (S := X) (M := []) (T := Y) (B := S ++ xs.drop b) (ys := zs) (a := ((m : Int) - (X.length : Int)).toNat) (b := m) (n := X.length) (by simpa using hs) (by simp; omega) rfl (by omega) (by simp; omega)
  subst this
  have : P ++ (Y ++ (X ++ S)) = seg xs m b ++ seg xs a m := by rw [← h3]; simp
  simp only [List.append_nil, List.append_assoc, List.append_cancel_left_eq]
  rw [← List.append_assoc X, ← List.append_assoc Y, ← List.append_assoc P, this]; simp
/-! ### plain: insertion -/
variable {le : α → α → Bool}
def Ins (le : α → α → Bool) (xs : List α) (a i : Nat) (ys : List α) (j : Nat) : Prop := ∃ S1 x S2, xs[i]? = some x ∧ ssort le (seg xs a i) = S1 ++ S2 ∧ ys = xs.take a ++ (S1 ++ x :: S2) ++ xs.drop (i + 1) ∧ a + S1.length = j ∧ ∀ s ∈ S2, le s x = false
def InsO (le : α → α → Bool) (xs : List α) (a i : Nat) (ys : List α) : Prop := ys = xs.take a ++ ssort le (seg xs a i) ++ xs.drop i
theorem inso_len {xs ys : List α} {a i : Nat} (h : InsO le xs a i ys) (hi : i ≤ xs.length) (ha : a ≤ i) : ys.length = xs.length := by
  rw [h]; simp [ssort_len, seg]; omega
theorem inso_start (xs : List α) (a : Nat) (h : a ≤ xs.length) : InsO le xs a (a + 1) xs := by
  unfold InsO
  have e : ssort le (seg xs a (a + 1)) = seg xs a (a + 1) := by
    have : (seg xs a (a + 1)).length ≤ 1 := by simp [seg]; omega
    match seg xs a (a + 1), this with
    | [], _ => rfl
    | [x], _ => exact ssort_one x
    | _ :: _ :: _, h => simp at h
  rw [e]; exact cut3 (by omega)
theorem inso_zero (xs : List α) (a : Nat) : InsO le xs a a xs := by simp [InsO, seg_self, ssort_nil]
theorem inso_end {xs ys : List α} {a b i : Nat} (h : InsO le xs a i ys) (hb : b ≤ xs.length) (h1 : a ≤ b) (h2 : b ≤ i) (h3 : i ≤ b ∨ i = a + 1) : InsO le xs a b ys := by
  by_cases e : i = b
  · subst e; exact h
  · have e1 : i = a + 1 := by omega
    have e2 : b = a := by omega
    subst e1 e2
    have := inso_start (le := le) xs b hb
    unfold InsO at h this
    rw [h, ← this]; exact inso_zero _ _
theorem ins_start {xs ys : List α} {a i : Nat} (h : InsO le xs a i ys) (ha : a < i) (hi : i < xs.length) : Ins le xs a i ys i := by
  refine ⟨ssort le (seg xs a i), xs[i], [], List.getElem?_eq_getElem hi, by simp, ?_, ?_, by simp⟩
  · rw [h]; simp
  · rw [ssort_len, seg_len (by omega)]; omega
theorem ins_len {xs ys : List α} {a i j : Nat} (h : Ins le xs a i ys j) (ha : a ≤ i) : ys.length = xs.length ∧ a ≤ j ∧ j ≤ i ∧ i < xs.length := by
  obtain ⟨S1, x, S2, h1, h2, rfl, h4, h5⟩ := h
  have hi := (List.getElem?_eq_some_iff.1 h1).1
  have := congrArg List.length h2
  rw [ssort_len, seg_len (by omega)] at this
  simp at this ⊢
  omega
theorem ins_at {xs : List α} {A S1 : List α} {x : α} {B : List α} {j : Nat} (h : A.length + S1.length = j) (hl : j < (A ++ (S1 ++ x :: B)).length) : (A ++ (S1 ++ x :: B))[j] = x := by
  subst h
  rw [List.getElem_append_right (by omega), List.getElem_append_right (by omega)]; simp
theorem ins_step {xs ys : List α} {a i j : Nat} (h : Ins le xs a i ys j) (hai : a ≤ i) (ha : a < j) (h1 : j < ys.length) (h0 : j - 1 < ys.length) (hle : le ys[j - 1] ys[j] = false) : Ins le xs a i ((ys.set j ys[j - 1]).set (j - 1) ys[j]) (j - 1) := by
  obtain ⟨_, _, _, hi⟩ := ins_len h hai
  obtain ⟨S1, x, S2, g1, g2, rfl, g4, g5⟩ := h
  have hal : (xs.take a).length = a := by simp; omega
  have e1 : S1 ≠ [] := by intro e; subst e; simp at g4; omega
  obtain ⟨T, y, rfl⟩ : ∃ T y, S1 = T ++ [y] := ⟨S1.dropLast, S1.getLast e1, (List.dropLast_concat_getLast e1).symm⟩
  have q : xs.take a ++ (T ++ [y] ++ x :: S2) ++ xs.drop (i + 1) = (xs.take a ++ T) ++ y :: x :: (S2 ++ xs.drop (i + 1)) := by simp
  have hT : (xs.take a ++ T).length = j - 1 := by simp at g4 ⊢; omega
  generalize xs.take a ++ (T ++ [y] ++ x :: S2) ++ xs.drop (i + 1) = ys at q h1 h0 hle ⊢
  subst q
  have q1 : ((xs.take a ++ T) ++ y :: x :: (S2 ++ xs.drop (i + 1)))[j - 1] = y := by
    rw [List.getElem_append_right (by omega)]; simp [hT]
  have q2 : ((xs.take a ++ T) ++ y :: x :: (S2 ++ xs.drop (i + 1)))[j] = x := by
    rw [List.getElem_append_right (by omega)]; simp only [show j - (xs.take a ++ T).length = 1 by omega]; rfl
  rw [q1, q2] at hle ⊢
  refine ⟨T, x, y :: S2, g1, by rw [g2]; simp, ?_, by simp at hT; omega, fun s hs => ?_⟩
  · rw [List.set_append_right _ _ (by omega), List.set_append_right _ _ (by omega), show j - (xs.take a ++ T).length = 1 by omega, hT, Nat.sub_self]
    simp
  · rcases List.mem_cons.1 hs with rfl | hs
    · exact hle
    · exact g5 s hs
theorem ins_end (tr : ∀ a b c, le a b = true → le b c = true → le a c = true) (to : ∀ a b, (le a b || le b a) = true) {xs ys : List α} {a i j : Nat} (h : Ins le xs a i ys j) (hai : a ≤ i) (he : j = a ∨ ∃ (h1 : j < ys.length) (h0 : j - 1 < ys.length), le ys[j - 1] ys[j] = true) : InsO le xs a (i + 1) ys := by
  obtain ⟨_, _, _, hi⟩ := ins_len h hai
  have hh := h
  obtain ⟨S1, x, S2, g1, g2, rfl, g4, g5⟩ := h
  have hal : (xs.take a).length = a := by simp; omega
  have hs := ssort_sorted tr to (seg xs a i)
  rw [g2] at hs
  have hS1 : ∀ s ∈ S1, le s x = true := by
    rcases he with rfl | ⟨h1, h0, hle⟩
    · have : S1 = [] := List.length_eq_zero_iff.1 (by omega)
      subst this; simp
    · by_cases e1 : S1 = []
      · subst e1; simp
      obtain ⟨T, y, rfl⟩ : ∃ T y, S1 = T ++ [y] := ⟨S1.dropLast, S1.getLast e1, (List.dropLast_concat_getLast e1).symm⟩
      have q : xs.take a ++ (T ++ [y] ++ x :: S2) ++ xs.drop (i + 1) = (xs.take a ++ T) ++ y :: x :: (S2 ++ xs.drop (i + 1)) := by simp
      have hT : (xs.take a ++ T).length = j - 1 := by simp at g4 ⊢; omega
      have hj : 0 < j := by simp at g4; omega
      clear hh
      generalize xs.take a ++ (T ++ [y] ++ x :: S2) ++ xs.drop (i + 1) = ys at *
      subst q
      have q1 : ((xs.take a ++ T) ++ y :: x :: (S2 ++ xs.drop (i + 1)))[j - 1] = y := by
        rw [List.getElem_append_right (by omega)]; simp [hT]
      have q2 : ((xs.take a ++ T) ++ y :: x :: (S2 ++ xs.drop (i + 1)))[j] = x := by
        rw [List.getElem_append_right (by omega)]; simp only [show j - (xs.take a ++ T).length = 1 by omega]; rfl
      rw [q1, q2] at hle
      intro s hs'
      rcases List.mem_append.1 hs' with hs' | hs'
      · have := (List.pairwise_append.1 (List.pairwise_append.1 hs).1).2.2 s hs' y (by simp)
        exact tr _ _ _ this hle
      · rw [List.mem_singleton.1 hs']; exact hle
  have hseg : seg xs a (i + 1) = seg xs a i ++ [x] := by
    rw [seg_split (m := i) hai (by omega)]
    congr 1
    unfold seg
    rw [show i + 1 - i = 1 by omega]
    obtain ⟨h3, rfl⟩ := List.getElem?_eq_some_iff.1 g1
    rw [List.drop_eq_getElem_cons h3]; rfl
  unfold InsO
  rw [hseg, ssort_snoc, g2, merge_one S1 S2 x hS1 g5]
end
end Go.Proofs.Ytfamnoalgjkjhaa
