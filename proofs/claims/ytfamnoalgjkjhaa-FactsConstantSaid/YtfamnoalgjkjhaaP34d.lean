import Derived.Test.YtfamnoalgjkjhaaP34b
namespace Go.Proofs.Ytfamnoalgjkjhaa
set_option linter.unusedSimpArgs false
set_option linter.unusedVariables false
/-! ### plain: halving, and the parts of symMerge -/
theorem half_eq {i j : Nat} : ((i : Int) + (j : Int)).fdiv (2 ^ (min (1 : Int).toNat (IntKind.bits .u64))) = (((i + j) / 2 : Nat) : Int) := by
  have : (min (1 : Int).toNat (IntKind.bits .u64)) = 1 := rfl
  rw [this, Int.fdiv_eq_ediv_of_nonneg _ (by decide)]; omega
def BS (p : Nat → Bool) (lo hi s r : Nat) : Prop := lo ≤ s ∧ s ≤ r ∧ r ≤ hi ∧ (s = lo ∨ p (s - 1) = true) ∧ (r = hi ∨ p r = false)
theorem bs_start {p : Nat → Bool} {lo hi : Nat} (h : lo ≤ hi) : BS p lo hi lo hi := ⟨by omega, h, by omega, .inl rfl, .inl rfl⟩
theorem bs_t {p : Nat → Bool} {lo hi s r : Nat} (h : BS p lo hi s r) (h1 : s < r) (h2 : p ((s + r) / 2) = true) : BS p lo hi ((s + r) / 2 + 1) r :=
  ⟨by have := h.1; omega, by omega, h.2.2.1, .inr (by rw [Nat.add_sub_cancel]; exact h2), h.2.2.2.2⟩
theorem bs_f {p : Nat → Bool} {lo hi s r : Nat} (h : BS p lo hi s r) (h1 : s < r) (h2 : p ((s + r) / 2) = false) : BS p lo hi s ((s + r) / 2) :=
  ⟨h.1, by omega, by have := h.2.2.1; omega, h.2.2.2.1, .inr h2⟩
section
variable {α : Type} {le : α → α → Bool}
def Sorted (le : α → α → Bool) (xs : List α) : Prop := xs.Pairwise (fun a b => le a b = true)
theorem seg_of {xs A S B : List α} {a b : Nat} (h : xs = A ++ S ++ B) (ha : a = A.length) (hb : b = A.length + S.length) : seg xs a b = S := by subst h; exact seg_app ha hb
theorem sorted_sub {xs : List α} {a b a' b' : Nat} (h : Sorted le (seg xs a b)) (h1 : a ≤ a') (h2 : b' ≤ b) : Sorted le (seg xs a' b') := by
  by_cases h3 : a' ≤ b'
  · rw [seg_split (m := a') h1 (by omega), seg_split (xs := xs) (a := a') (m := b') h3 h2] at h
    exact (List.pairwise_append.1 (List.pairwise_append.1 h).2.1).1
  · have : seg xs a' b' = [] := by simp [seg]; omega
    rw [this]; exact List.Pairwise.nil
theorem sorted_le {xs : List α} {a b i j : Nat} (h : Sorted le (seg xs a b)) (to : ∀ a b, (le a b || le b a) = true) (h1 : a ≤ i) (h2 : i ≤ j) (h3 : j < b) (hi : i < xs.length) (hj : j < xs.length) : le xs[i] xs[j] = true := by
  by_cases e : i = j
  · subst e; have := to xs[i] xs[i]; simpa using this
  · rw [seg_split (m := j) (by omega) (by omega)] at h
    exact (List.pairwise_append.1 h).2.2 _ (seg_at h1 (by omega) hi) _ (seg_at (by omega) h3 hj)
def Sym (le : α → α → Bool) (xs : List α) (a m b : Nat) (ys : List α) : Prop := ys = xs.take a ++ List.merge (seg xs a m) (seg xs m b) le ++ xs.drop b
theorem sym_len {xs ys : List α} {a m b : Nat} (h : Sym le xs a m b ys) (h1 : a ≤ m) (h2 : m ≤ b) (h3 : b ≤ xs.length) : ys.length = xs.length := by
  rw [h]; simp [List.length_merge, seg]; omega
theorem sym_triv {xs : List α} {a m b : Nat} (h1 : a ≤ m) (h2 : m ≤ b) (h : a = m ∨ m = b) : Sym le xs a m b xs := by
  unfold Sym
  rcases h with rfl | rfl
  · rw [seg_self, List.nil_merge]; exact cut3 h2
  · rw [seg_self, List.merge_right]; exact cut3 h1
def RotQ (xs : List α) (s m e : Nat) (ys : List α) : Prop := ys = xs.take s ++ seg xs m e ++ seg xs s m ++ xs.drop e
theorem rotq_triv {xs : List α} {s m e : Nat} (h1 : s ≤ m) (h2 : m ≤ e) (h : s = m ∨ m = e) : RotQ xs s m e xs := by
  unfold RotQ
  rcases h with rfl | rfl
  · rw [seg_self, List.append_nil]; exact cut3 h2
  · rw [seg_self, List.append_nil]; exact cut3 h1
theorem cut6 {xs : List α} {a s m e b : Nat} (h1 : a ≤ s) (h2 : s ≤ m) (h3 : m ≤ e) (h4 : e ≤ b) : xs = xs.take a ++ seg xs a s ++ seg xs s m ++ seg xs m e ++ seg xs e b ++ xs.drop b := by
  conv => lhs; rw [cut3 (xs := xs) (a := a) (b := b) (by omega), seg_split (m := s) h1 (by omega), seg_split (xs := xs) (a := s) (m := m) h2 (by omega), seg_split (xs := xs) (a := m) (m := e) h3 h4]
  simp
theorem rotq_parts {xs ys : List α} {a s m e b q : Nat} (h : RotQ xs s m e ys) (h1 : a ≤ s) (h2 : s ≤ m) (h3 : m ≤ e) (h4 : e ≤ b) (hb : b ≤ xs.length) (hq : s + e = q + m) :
    ys.take a = xs.take a ∧ seg ys a s = seg xs a s ∧ seg ys s q = seg xs m e ∧ seg ys q e = seg xs s m ∧ seg ys e b = seg xs e b ∧ ys.drop b = xs.drop b ∧ ys.length = xs.length := by
  have l1 : (xs.take a).length = a := by simp; omega
  have l2 : (seg xs a s).length = s - a := seg_len (by omega)
  have l3 : (seg xs s m).length = m - s := seg_len (by omega)
  have l4 : (seg xs m e).length = e - m := seg_len (by omega)
  have l5 : (seg xs e b).length = b - e := seg_len (by omega)
  have l6 : (xs.drop b).length = xs.length - b := by simp
  have c1 : xs.take s = xs.take a ++ seg xs a s := by
    unfold seg
    conv => lhs; rw [show s = a + (s - a) by omega, List.take_add]
  have c2 : xs.drop e = seg xs e b ++ xs.drop b := by
    unfold seg
    conv => lhs; rw [← List.take_append_drop (b - e) (xs.drop e), List.drop_drop, show e + (b - e) = b by omega]
  unfold RotQ at h
  rw [c1, c2] at h
  generalize xs.take a = A at *
  generalize seg xs a s = A1 at *
  generalize seg xs s m = A2 at *
  generalize seg xs m e = B1 at *
  generalize seg xs e b = B2 at *
  generalize xs.drop b = B at *
  subst h
  refine ⟨?_, seg_of (A := A) (B := B1 ++ A2 ++ B2 ++ B) (by simp) (by omega) (by omega), seg_of (A := A ++ A1) (B := A2 ++ B2 ++ B) (by simp) (by simp; omega) (by simp; omega), seg_of (A := A ++ A1 ++ B1) (B := B2 ++ B) (by simp) (by simp; omega) (by simp; omega), seg_of (A := A ++ A1 ++ B1 ++ A2) (B := B) (by simp) (by simp; omega) (by simp; omega), ?_, by simp; omega⟩
  · simp only [List.append_assoc]; rw [List.take_append_of_le_length (by omega), List.take_of_length_le (by omega)]
  · have : (A ++ A1 ++ B1 ++ A2 ++ (B2 ++ B)) = (A ++ A1 ++ B1 ++ A2 ++ B2) ++ B := by simp
    rw [this]; exact List.drop_left' (by simp; omega)
theorem sym_parts {xs ys : List α} {a s q e b : Nat} (h : Sym le xs a s q ys) (h1 : a ≤ s) (h2 : s ≤ q) (h3 : q ≤ e) (h4 : e ≤ b) (hb : b ≤ xs.length) :
    ys.take q = xs.take a ++ List.merge (seg xs a s) (seg xs s q) le ∧ seg ys q e = seg xs q e ∧ seg ys e b = seg xs e b ∧ ys.drop b = xs.drop b ∧ ys.length = xs.length := by
  have l1 : (xs.take a).length = a := by simp; omega
  have l2 : (List.merge (seg xs a s) (seg xs s q) le).length = q - a := by rw [List.length_merge, seg_len (by omega), seg_len (by omega)]; omega
  have l4 : (seg xs q e).length = e - q := seg_len (by omega)
  have l5 : (seg xs e b).length = b - e := seg_len (by omega)
  have l6 : (xs.drop b).length = xs.length - b := by simp
  have c2 : xs.drop q = seg xs q e ++ seg xs e b ++ xs.drop b := by
    unfold seg
    conv => lhs; rw [← List.take_append_drop (e - q) (xs.drop q), List.drop_drop, show q + (e - q) = e by omega, ← List.take_append_drop (b - e) (xs.drop e), List.drop_drop, show e + (b - e) = b by omega]
    simp
  unfold Sym at h
  rw [c2] at h
  generalize xs.take a = A at *
  generalize List.merge (seg xs a s) (seg xs s q) le = M at *
  generalize seg xs q e = A2 at *
  generalize seg xs e b = B2 at *
  generalize xs.drop b = B at *
  subst h
  refine ⟨?_, seg_of (A := A ++ M) (B := B2 ++ B) (by simp) (by simp; omega) (by simp; omega), seg_of (A := A ++ M ++ A2) (B := B) (by simp) (by simp; omega) (by simp; omega), ?_, by simp; omega⟩
  · exact List.take_left' (by simp; omega)
  · have : (A ++ M ++ (A2 ++ B2 ++ B)) = (A ++ M ++ A2 ++ B2) ++ B := by simp
    rw [this]; exact List.drop_left' (by simp; omega)
theorem sym_join {xs y1 y2 y3 : List α} {a s m e b q : Nat} (h1 : a ≤ s) (h2 : s ≤ m) (h3 : m ≤ e) (h4 : e ≤ b) (hb : b ≤ xs.length) (hq : s + e = q + m)
    (r1 : RotQ xs s m e y1) (r2 : Sym le y1 a s q y2) (r3 : Sym le y2 q e b y3)
    (hA : ∀ x ∈ seg xs a s, ∀ y ∈ seg xs e b, le x y = true) (hB : ∀ y ∈ seg xs m e, ∀ x ∈ seg xs s m, le x y = false) : Sym le xs a m b y3 := by
  obtain ⟨p1, p2, p3, p4, p5, p6, p7⟩ := rotq_parts r1 h1 h2 h3 h4 hb hq
  obtain ⟨q1, q2, q3, q4, q5⟩ := sym_parts r2 h1 (by omega) (by omega : q ≤ e) h4 (by omega)
  have e1 : List.merge (seg xs a m) (seg xs m b) le = List.merge (seg xs a s) (seg xs m e) le ++ List.merge (seg xs s m) (seg xs e b) le := by
    rw [seg_split (xs := xs) (a := a) (m := s) h1 h2, seg_split (xs := xs) (a := m) (m := e) h3 h4]
    exact sym_split hA hB
  unfold Sym at r3 ⊢
  rw [r3, q1, q2, q3, q4, p1, p2, p3, p4, p5, p6, e1]; simp
/-- what the search of symMerge finds -/
theorem sym_found (tr : ∀ a b c, le a b = true → le b c = true → le a c = true) (to : ∀ a b, (le a b || le b a) = true) {xs : List α} {z : α} {a s m e b q lo hi : Nat} (hb : b ≤ xs.length) (sA : Sorted le (seg xs a m)) (sB : Sorted le (seg xs m b))
    (ham : a < m) (hmb : m < b) (hq : q = (a + b) / 2) (hl : (q < m ∧ lo = q + m - b ∧ hi = q) ∨ (m ≤ q ∧ lo = a ∧ hi = m))
    (h : BS (fun c => le (xs.getD c z) (xs.getD (q + m - 1 - c) z)) lo hi s s) (he : e = q + m - s) :
    a ≤ s ∧ s ≤ m ∧ m ≤ e ∧ e ≤ b ∧ s + e = q + m ∧ (∀ x ∈ seg xs a s, ∀ y ∈ seg xs e b, le x y = true) ∧ (∀ y ∈ seg xs m e, ∀ x ∈ seg xs s m, le x y = false) := by
  obtain ⟨h1, _, h2, h3, h4⟩ := h
  have g1 : a ≤ s ∧ s ≤ m ∧ m ≤ e ∧ e ≤ b ∧ s + e = q + m := by omega
  obtain ⟨k1, k2, k3, k4, k5⟩ := g1
  refine ⟨k1, k2, k3, k4, k5, fun x hx y hy => ?_, fun y hy x hx => ?_⟩
  · obtain ⟨i, hi1, hi2, hi3, rfl⟩ := seg_mem hx
    obtain ⟨j, hj1, hj2, hj3, rfl⟩ := seg_mem hy
    have hs : s ≠ lo := by omega
    have h3 := h3.resolve_left hs
    simp only [show q + m - 1 - (s - 1) = e by omega, List.getD_eq_getElem?_getD, List.getElem?_eq_getElem (show s - 1 < xs.length by omega), List.getElem?_eq_getElem (show e < xs.length by omega), Option.getD_some] at h3
    exact tr _ _ _ (sorted_le sA to hi2 (by omega) (by omega) hi1 (by omega)) (tr _ _ _ h3 (sorted_le sB to (by omega) hj2 hj3 (by omega) hj1))
  · obtain ⟨i, hi1, hi2, hi3, rfl⟩ := seg_mem hx
    obtain ⟨j, hj1, hj2, hj3, rfl⟩ := seg_mem hy
    have hs : s ≠ hi := by omega
    have h4 := h4.resolve_left hs
    simp only [show q + m - 1 - s = e - 1 by omega, List.getD_eq_getElem?_getD, List.getElem?_eq_getElem (show s < xs.length by omega), List.getElem?_eq_getElem (show e - 1 < xs.length by omega), Option.getD_some] at h4
    cases hc : le xs[i] xs[j] with
    | false => rfl
    | true =>
      have := tr _ _ _ (tr _ _ _ (sorted_le sA to (by omega) hi2 (by omega) (by omega) hi1) hc) (sorted_le sB to hj2 (by omega) (show e - 1 < b by omega) hj1 (by omega))
      rw [this] at h4; cases h4
/-! #### one element on the left, on the right -/
def MvR (xs : List α) (a k : Nat) (ys : List α) : Prop := ∃ x, xs[a]? = some x ∧ a ≤ k ∧ ys = xs.take a ++ seg xs (a + 1) (k + 1) ++ x :: xs.drop (k + 1)
theorem take_seg {xs : List α} {a b : Nat} (h : a ≤ b) : xs.take b = xs.take a ++ seg xs a b := by
  unfold seg
  conv => lhs; rw [show b = a + (b - a) by omega, List.take_add]
theorem drop_seg {xs : List α} {a b : Nat} (h : a ≤ b) : xs.drop a = seg xs a b ++ xs.drop b := by
  unfold seg
  conv => lhs; rw [← List.take_append_drop (b - a) (xs.drop a), List.drop_drop, show a + (b - a) = b by omega]
theorem mvr_start {xs : List α} {a : Nat} (h : a < xs.length) : MvR xs a a xs := by
  refine ⟨xs[a], List.getElem?_eq_getElem h, by omega, ?_⟩
  rw [seg_self, List.append_nil, ← List.drop_eq_getElem_cons h, List.take_append_drop]
theorem mvr_len {xs ys : List α} {a k : Nat} (h : MvR xs a k ys) (hk : k < xs.length) : ys.length = xs.length := by
  obtain ⟨x, _, h2, rfl⟩ := h
  simp [seg]; omega
theorem mvr_step {xs ys : List α} {a k : Nat} (h : MvR xs a k ys) (hk : k + 1 < xs.length) (h1 : k < ys.length) (h2 : k + 1 < ys.length) : MvR xs a (k + 1) ((ys.set k ys[k + 1]).set (k + 1) ys[k]) := by
  obtain ⟨x, g1, g2, rfl⟩ := h
  refine ⟨x, g1, by omega, ?_⟩
  have e : seg xs (a + 1) (k + 1 + 1) = seg xs (a + 1) (k + 1) ++ [xs[k + 1]] := by
    rw [seg_split (m := k + 1) (by omega) (by omega)]
    congr 1
    unfold seg
    rw [show k + 1 + 1 - (k + 1) = 1 by omega, List.drop_eq_getElem_cons hk]; rfl
  have e2 : xs.drop (k + 1) = xs[k + 1] :: xs.drop (k + 1 + 1) := List.drop_eq_getElem_cons hk
  rw [e, ← List.append_assoc]
  have hl : (xs.take a ++ seg xs (a + 1) (k + 1)).length = k := by simp [seg]; omega
  simp only [e2] at h1 h2 ⊢
  generalize xs.take a ++ seg xs (a + 1) (k + 1) = T at *
  have q1 : (T ++ x :: xs[k + 1] :: xs.drop (k + 1 + 1))[k] = x := by rw [List.getElem_append_right (by omega)]; simp [hl]
  have q2 : (T ++ x :: xs[k + 1] :: xs.drop (k + 1 + 1))[k + 1] = xs[k + 1] := by rw [List.getElem_append_right (by omega)]; simp only [show k + 1 - T.length = 1 by omega]; rfl
  rw [q1, q2, List.set_append_right _ _ (by omega), List.set_append_right _ _ (by omega), show k - T.length = 0 by omega, show k + 1 - T.length = 1 by omega, List.append_assoc]
  rfl
theorem seg_one {xs : List α} {a : Nat} {x : α} (h : xs[a]? = some x) : seg xs a (a + 1) = [x] := by
  obtain ⟨h1, rfl⟩ := List.getElem?_eq_some_iff.1 h
  unfold seg
  rw [show a + 1 - a = 1 by omega, List.drop_eq_getElem_cons h1]; rfl
theorem getD_of {xs : List α} {i : Nat} {x z : α} (h : xs[i]? = some x) : xs.getD i z = x := by rw [List.getD_eq_getElem?_getD, h]; rfl
theorem mvr_end (tr : ∀ a b c, le a b = true → le b c = true → le a c = true) (to : ∀ a b, (le a b || le b a) = true) {xs ys : List α} {z : α} {a b i k : Nat} (h : MvR xs a k ys) (hb : b ≤ xs.length) (sB : Sorted le (seg xs (a + 1) b)) (hp : BS (fun h => !le (xs.getD a z) (xs.getD h z)) (a + 1) b i i) (hk : k + 1 = i) : Sym le xs a (a + 1) b ys := by
  obtain ⟨x, g1, g2, rfl⟩ := h
  obtain ⟨h1, _, h2, h3, h4⟩ := hp
  subst hk
  simp only [getD_of g1] at h3 h4
  unfold Sym
  rw [seg_one g1, seg_split (xs := xs) (a := a + 1) (m := k + 1) (b := b) (by omega) h2, one_merge _ _ x, drop_seg (xs := xs) (a := k + 1) (b := b) (by omega)]
  · simp
  · intro s hs
    obtain ⟨j, hj1, hj2, hj3, rfl⟩ := seg_mem hs
    have h3 := h3.resolve_left (by omega)
    rw [Nat.add_sub_cancel, getD_of (List.getElem?_eq_getElem (show k < xs.length by omega))] at h3
    cases hc : le x xs[j] with
    | false => rfl
    | true => rw [tr _ _ _ hc (sorted_le sB to hj2 (by omega) (by omega) hj1 (by omega))] at h3; simp at h3
  · intro s hs
    obtain ⟨j, hj1, hj2, hj3, rfl⟩ := seg_mem hs
    have h4 := h4.resolve_left (by omega)
    rw [getD_of (List.getElem?_eq_getElem (show k + 1 < xs.length by omega))] at h4
    exact tr _ _ _ (by simpa using h4) (sorted_le sB to h1 hj2 hj3 _ hj1)
def MvL (xs : List α) (m k : Nat) (ys : List α) : Prop := ∃ x, xs[m]? = some x ∧ k ≤ m ∧ ys = xs.take k ++ x :: (seg xs k m ++ xs.drop (m + 1))
theorem mvl_start {xs : List α} {m : Nat} (h : m < xs.length) : MvL xs m m xs := by
  refine ⟨xs[m], List.getElem?_eq_getElem h, by omega, ?_⟩
  rw [seg_self, List.nil_append, ← List.drop_eq_getElem_cons h, List.take_append_drop]
theorem mvl_len {xs ys : List α} {m k : Nat} (h : MvL xs m k ys) (hk : m < xs.length) : ys.length = xs.length ∧ k ≤ m := by
  obtain ⟨x, _, h2, rfl⟩ := h
  refine ⟨?_, h2⟩
  simp [seg]; omega
theorem mvl_step {xs ys : List α} {m k : Nat} (h : MvL xs m k ys) (hk : 0 < k) (hm : m < xs.length) (h1 : k < ys.length) (h2 : k - 1 < ys.length) : MvL xs m (k - 1) ((ys.set k ys[k - 1]).set (k - 1) ys[k]) := by
  obtain ⟨x, g1, g2, rfl⟩ := h
  refine ⟨x, g1, by omega, ?_⟩
  have hk1 : k - 1 < xs.length := by omega
  have e : seg xs (k - 1) m = xs[k - 1] :: seg xs k m := by
    rw [seg_split (m := k) (by omega) (by omega)]
    have := seg_one (List.getElem?_eq_getElem hk1)
    rw [show k - 1 + 1 = k by omega] at this
    rw [this]; rfl
  have e2 : xs.take k = xs.take (k - 1) ++ [xs[k - 1]] := by
    conv => lhs; rw [show k = k - 1 + 1 by omega]
    rw [List.take_succ_eq_append_getElem hk1]
  rw [e]
  have hl : (xs.take (k - 1)).length = k - 1 := by simp; omega
  simp only [e2, List.append_assoc, List.cons_append, List.nil_append] at h1 h2 ⊢
  generalize xs.take (k - 1) = T at *
  have q1 : (T ++ xs[k - 1] :: x :: (seg xs k m ++ xs.drop (m + 1)))[k - 1] = xs[k - 1] := by rw [List.getElem_append_right (by omega)]; simp [hl]
  have q2 : (T ++ xs[k - 1] :: x :: (seg xs k m ++ xs.drop (m + 1)))[k] = x := by rw [List.getElem_append_right (by omega)]; simp only [show k - T.length = 1 by omega]; rfl
  rw [q1, q2, List.set_append_right _ _ (by omega), List.set_append_right _ _ (by omega), show k - T.length = 1 by omega, show k - 1 - T.length = 0 by omega]
  simp
theorem mvl_end (tr : ∀ a b c, le a b = true → le b c = true → le a c = true) (to : ∀ a b, (le a b || le b a) = true) {xs ys : List α} {z : α} {a m i : Nat} (h : MvL xs m i ys) (hm : m < xs.length) (sA : Sorted le (seg xs a m)) (hp : BS (fun h => le (xs.getD h z) (xs.getD m z)) a m i i) : Sym le xs a m (m + 1) ys := by
  obtain ⟨x, g1, g2, rfl⟩ := h
  obtain ⟨h1, _, h2, h3, h4⟩ := hp
  simp only [getD_of g1] at h3 h4
  unfold Sym
  rw [seg_one g1, seg_split (xs := xs) (a := a) (m := i) (b := m) h1 h2, merge_one _ _ x, take_seg (xs := xs) (a := a) (b := i) h1]
  · simp
  · intro s hs
    obtain ⟨j, hj1, hj2, hj3, rfl⟩ := seg_mem hs
    have h3 := h3.resolve_left (by omega)
    rw [getD_of (List.getElem?_eq_getElem (show i - 1 < xs.length by omega))] at h3
    exact tr _ _ _ (sorted_le sA to hj2 (by omega) (by omega) hj1 (by omega)) h3
  · intro s hs
    obtain ⟨j, hj1, hj2, hj3, rfl⟩ := seg_mem hs
    have h4 := h4.resolve_left (by omega)
    rw [getD_of (List.getElem?_eq_getElem (show i < xs.length by omega))] at h4
    cases hc : le xs[j] x with
    | false => rfl
    | true => rw [tr _ _ _ (sorted_le sA to h1 hj2 hj3 (by omega) hj1) hc] at h4; cases h4
end
end Go.Proofs.Ytfamnoalgjkjhaa
