import Derived.Test.YtfamnoalgjkjhaaM4
namespace Go.Proofs.Ytfamnoalgjkjhaa
set_option linter.unusedSimpArgs false
set_option linter.unusedVariables false
/-! ### plain: stable merging -/
section
variable {α : Type}
def seg (xs : List α) (a b : Nat) : List α := (xs.drop a).take (b - a)
theorem seg_len {xs : List α} {a b : Nat} (h : b ≤ xs.length) : (seg xs a b).length = b - a := by simp [seg]; omega
theorem seg_split {xs : List α} {a m b : Nat} (h1 : a ≤ m) (h2 : m ≤ b) : seg xs a b = seg xs a m ++ seg xs m b := by
  unfold seg
  conv => lhs; rw [show b - a = (m - a) + (b - m) by omega]
  rw [List.take_add, List.drop_drop, show a + (m - a) = m by omega]
theorem cut3 {xs : List α} {a b : Nat} (h1 : a ≤ b) : xs = xs.take a ++ seg xs a b ++ xs.drop b := by
  unfold seg
  conv => lhs; rw [← List.take_append_drop b xs]
  congr 1
  conv => lhs; rw [show b = a + (b - a) by omega, List.take_add]
theorem seg_get {xs : List α} {a b i : Nat} (h : i < (seg xs a b).length) : ∃ h', (seg xs a b)[i] = xs[a + i]' h' := by
  simp [seg] at h
  exact ⟨by omega, by simp [seg]⟩
theorem seg_mem {xs : List α} {a b : Nat} {x : α} (h : x ∈ seg xs a b) : ∃ i, ∃ h' : i < xs.length, a ≤ i ∧ i < b ∧ xs[i] = x := by
  obtain ⟨i, h1, rfl⟩ := List.mem_iff_getElem.1 h
  obtain ⟨h2, h3⟩ := seg_get h1
  simp [seg] at h1
  exact ⟨a + i, h2, by omega, by omega, h3.symm⟩
theorem seg_at {xs : List α} {a b i : Nat} (h1 : a ≤ i) (h2 : i < b) (h : i < xs.length) : xs[i] ∈ seg xs a b :=
  List.mem_iff_getElem.2 ⟨i - a, by simp [seg]; omega, by simp [seg, show a + (i - a) = i by omega]⟩
theorem seg_mid (A S B : List α) : seg (A ++ S ++ B) A.length (A.length + S.length) = S := by simp [seg]
theorem seg_self {xs : List α} {a : Nat} : seg xs a a = [] := by simp [seg]
theorem seg_app {A S B : List α} {a b : Nat} (ha : a = A.length) (hb : b = A.length + S.length) : seg (A ++ S ++ B) a b = S := by subst ha hb; exact seg_mid A S B

/-- two ranges exchanged -/
def Swp (xs : List α) (a b n : Nat) (ys : List α) : Prop := ys.length = xs.length ∧ ∀ i, ys[i]? = if a ≤ i ∧ i < a + n then xs[b + (i - a)]? else if b ≤ i ∧ i < b + n then xs[a + (i - b)]? else xs[i]?
theorem swp_zero (xs : List α) (a b : Nat) : Swp xs a b 0 xs := ⟨rfl, fun i => by rw [if_neg (by omega), if_neg (by omega)]⟩
theorem swp_succ {xs ys : List α} {a b k : Nat} (h : Swp xs a b k ys) (hab : a + k < b) (h1 : a + k < ys.length) (h2 : b + k < ys.length) :
    Swp xs a b (k + 1) ((ys.set (a + k) ys[b + k]).set (b + k) ys[a + k]) := by
  refine ⟨by simp [h.1], fun i => ?_⟩
  have e1 : xs[b + k]? = some ys[b + k] := by have := h.2 (b + k); rw [if_neg (by omega), if_neg (by omega)] at this; rw [← this, List.getElem?_eq_getElem h2]
  have e2 : xs[a + k]? = some ys[a + k] := by have := h.2 (a + k); rw [if_neg (by omega), if_neg (by omega)] at this; rw [← this, List.getElem?_eq_getElem h1]
  rw [List.getElem?_set, List.getElem?_set]
  simp only [List.length_set]
  by_cases c1 : b + k = i
  · subst c1; rw [if_pos rfl, if_pos h2, if_neg (by omega), if_pos (by omega), show a + (b + k - b) = a + k by omega, e2]
  · rw [if_neg c1]
    by_cases c2 : a + k = i
    · subst c2; rw [if_pos rfl, if_pos h1, if_pos (by omega), show b + (a + k - a) = b + k by omega, e1]
    · rw [if_neg c2, h.2 i]
      (repeat' split) <;> first | rfl | (exfalso; omega)
theorem swp_eq {A S M T B ys : List α} {a b n : Nat} (h : Swp (A ++ S ++ M ++ T ++ B) a b n ys) (h1 : a = A.length) (h2 : n = S.length) (h3 : n = T.length) (h4 : b = A.length + S.length + M.length) : ys = A ++ T ++ M ++ S ++ B := by
  refine List.ext_getElem? fun i => ?_
  rw [h.2 i]
  subst h1 h2 h4
  simp only [List.getElem?_append, List.length_append]
  (repeat' split) <;> first | rfl | (exfalso; omega) | (congr 1; omega)
end
section
variable {α : Type} {le : α → α → Bool}
theorem merge_split (A2 B2 : List α) : ∀ (A1 B1 : List α), (∀ x ∈ A1, ∀ y ∈ B2, le x y = true) → (∀ y ∈ B1, ∀ x ∈ A2, le x y = false) → List.merge (A1 ++ A2) (B1 ++ B2) le = List.merge A1 B1 le ++ List.merge A2 B2 le
  | [], [], _, _ => by simp
  | [], y :: B1, h1, h2 => by
    have ih := merge_split A2 B2 [] B1 h1 (fun z hz => h2 z (by simp [hz]))
    cases A2 with
    | nil => simp
    | cons x A2 =>
      simp only [List.nil_append, List.cons_append, List.nil_merge] at ih ⊢
      rw [List.merge, if_neg (by rw [h2 y (by simp) x (by simp)]; simp), ih]
  | x :: A1, [], h1, h2 => by
    have ih := merge_split A2 B2 A1 [] (fun z hz => h1 z (by simp [hz])) h2
    cases B2 with
    | nil => simp
    | cons y B2 =>
      simp only [List.nil_append, List.cons_append, List.merge_right] at ih ⊢
      rw [List.merge, if_pos (h1 x (by simp) y (by simp)), ih]
  | x :: A1, y :: B1, h1, h2 => by
    simp only [List.cons_append]
    rw [List.merge, List.merge]
    split
    · rw [← List.cons_append (as := B1), merge_split A2 B2 A1 (y :: B1) (fun z hz => h1 z (by simp [hz])) h2]; simp
    · rw [← List.cons_append (as := A1), merge_split A2 B2 (x :: A1) B1 h1 (fun z hz => h2 z (by simp [hz]))]; simp
theorem mcc (x : α) (A : List α) (y : α) (B : List α) : List.merge (x :: A) (y :: B) le = if le x y = true then x :: List.merge A (y :: B) le else y :: List.merge (x :: A) B le := by rw [List.merge]
theorem snoc_ind {p : List α → Prop} (h0 : p []) (h1 : ∀ xs x, p xs → p (xs ++ [x])) (xs : List α) : p xs := by
  have : ∀ ys : List α, p ys.reverse := fun ys => by
    induction ys with
    | nil => exact h0
    | cons y ys ih => rw [List.reverse_cons]; exact h1 _ _ ih
  simpa using this xs.reverse
theorem merge_assoc (tr : ∀ a b c, le a b = true → le b c = true → le a c = true) (to : ∀ a b, (le a b || le b a) = true) : ∀ (A B C : List α), List.merge (List.merge A B le) C le = List.merge A (List.merge B C le) le
  | [], B, C => by simp
  | x :: A, [], C => by simp
  | x :: A, y :: B, [] => by simp
  | x :: A, y :: B, z :: C => by
    have n1 : ∀ a b, le a b = false → le b a = true := fun a b h => by have := to a b; simpa [h] using this
    by_cases h1 : le x y = true
    · have i1 := merge_assoc tr to A (y :: B) (z :: C)
      by_cases h2 : le x z = true
      · rw [mcc x A y B, if_pos h1, mcc, if_pos h2, i1]
        by_cases h3 : le y z = true
        · rw [mcc y B z C, if_pos h3, mcc x A y, if_pos h1]
        · rw [mcc y B z C, if_neg h3, mcc x A z, if_pos h2]
      · have h3 : ¬ le y z = true := fun h => h2 (tr _ _ _ h1 h)
        have i2 := merge_assoc tr to (x :: A) (y :: B) C
        rw [mcc x A y B, if_pos h1] at i2 ⊢
        rw [mcc x _ z C, if_neg h2, i2, mcc y B z C, if_neg h3, mcc x A z, if_neg h2]
    · by_cases h2 : le y z = true
      · have i1 := merge_assoc tr to (x :: A) B (z :: C)
        rw [mcc x A y B, if_neg h1, mcc, if_pos h2, i1, mcc y B z C, if_pos h2, mcc x A y, if_neg h1]
      · have h3 : ¬ le x z = true := fun h => h2 (tr _ _ _ (n1 _ _ (by simpa using h1)) h)
        have i2 := merge_assoc tr to (x :: A) (y :: B) C
        rw [mcc x A y B, if_neg h1] at i2 ⊢
        rw [mcc y _ z C, if_neg h2, i2, mcc y B z C, if_neg h2, mcc x A z, if_neg h3]
  termination_by A B C => A.length + B.length + C.length
def ssort (le : α → α → Bool) (xs : List α) : List α := xs.foldl (fun s x => List.merge s [x] le) []
theorem ssort_nil : ssort le [] = [] := rfl
theorem ssort_snoc (xs : List α) (x : α) : ssort le (xs ++ [x]) = List.merge (ssort le xs) [x] le := by simp [ssort]
theorem ssort_one (x : α) : ssort le [x] = [x] := by simp [ssort]
theorem ssort_len (xs : List α) : (ssort le xs).length = xs.length := by
  induction xs using snoc_ind with
  | h0 => rfl
  | h1 xs x ih => rw [ssort_snoc, List.length_merge, ih]; simp
theorem ssort_mem {xs : List α} {x : α} : x ∈ ssort le xs ↔ x ∈ xs := by
  induction xs using snoc_ind with
  | h0 => simp [ssort]
  | h1 xs y ih => rw [ssort_snoc, List.mem_merge, ih]; simp
theorem ssort_app (tr : ∀ a b c, le a b = true → le b c = true → le a c = true) (to : ∀ a b, (le a b || le b a) = true) (xs ys : List α) : ssort le (xs ++ ys) = List.merge (ssort le xs) (ssort le ys) le := by
  induction ys using snoc_ind with
  | h0 => simp [ssort_nil]
  | h1 ys y ih => rw [← List.append_assoc, ssort_snoc, ssort_snoc, ih, merge_assoc tr to]
theorem ssort_sorted (tr : ∀ a b c, le a b = true → le b c = true → le a c = true) (to : ∀ a b, (le a b || le b a) = true) (xs : List α) : (ssort le xs).Pairwise (fun a b => le a b = true) := by
  induction xs using snoc_ind with
  | h0 => simp [ssort]
  | h1 xs y ih => rw [ssort_snoc]; exact List.pairwise_merge tr to _ _ ih (by simp)
/-- merging one element -/
theorem merge_one (S1 S2 : List α) (x : α) (h1 : ∀ s ∈ S1, le s x = true) (h2 : ∀ s ∈ S2, le s x = false) : List.merge (S1 ++ S2) [x] le = S1 ++ x :: S2 := by
  have := merge_split S2 [] S1 [x] (by simp) (by simpa using h2)
  rw [List.append_nil] at this
  rw [this, List.merge_right]
  have h := merge_split [] [x] S1 [] (by simpa using h1) (by simp)
  simp only [List.append_nil, List.nil_append, List.merge_right, List.nil_merge] at h
  rw [h]; simp
theorem one_merge (S1 S2 : List α) (x : α) (h1 : ∀ s ∈ S1, le x s = false) (h2 : ∀ s ∈ S2, le x s = true) : List.merge [x] (S1 ++ S2) le = S1 ++ x :: S2 := by
  have h := merge_split [x] S2 [] S1 (by simp) (by simpa using h1)
  have h' := merge_split [] S2 [x] [] (by simpa using h2) (by simp)
  simp only [List.append_nil, List.nil_append, List.merge_right, List.nil_merge] at h h'
  rw [h, h']; simp
/-- the split of symMerge -/
theorem sym_split {A1 A2 B1 B2 : List α} (h1 : ∀ x ∈ A1, ∀ y ∈ B2, le x y = true) (h2 : ∀ y ∈ B1, ∀ x ∈ A2, le x y = false) : List.merge (A1 ++ A2) (B1 ++ B2) le = List.merge A1 B1 le ++ List.merge A2 B2 le := merge_split A2 B2 A1 B1 h1 h2
end
end Go.Proofs.Ytfamnoalgjkjhaa
