import Derived.Test.YtemcooggkcneiaaEngS
namespace Go.Proofs.Ytemcooggkcneiaa
open Go.Eng
set_option linter.unusedVariables false
set_option linter.unusedSimpArgs false
/-! ### a binary heap of integers, as a list -/
def gt (xs : List Int) (k : Nat) : Int := xs.getD k 0
def sw (xs : List Int) (i j : Nat) : List Int := (xs.set i (gt xs j)).set j (gt xs i)
theorem sw_len (xs : List Int) (i j : Nat) : (sw xs i j).length = xs.length := by simp [sw]
theorem gt_at {xs : List Int} {k : Nat} (h : k < xs.length) : gt xs k = xs[k] := by simp [gt, h]
theorem sw_get {xs : List Int} {i j : Nat} (hi : i < xs.length) (hj : j < xs.length) (k : Nat) : gt (sw xs i j) k = if k = j then gt xs i else if k = i then gt xs j else gt xs k := by
  simp only [gt, sw, List.getD_eq_getElem?_getD, List.getElem?_set, List.length_set]
  by_cases e1 : k = j
  · subst e1; simp [hj]
  · rw [if_neg (fun e => e1 e.symm), if_neg e1]
    by_cases e2 : k = i
    · subst e2; simp [hi]
    · rw [if_neg (fun e => e2 e.symm), if_neg e2]
theorem sw_perm {xs : List Int} {i j : Nat} (hi : i < xs.length) (hj : j < xs.length) : (sw xs i j).Perm xs := by
  unfold sw
  rw [gt_at hi, gt_at hj]
  exact List.set_set_perm hi hj
/-- the first n elements are a heap -/
def HeapOK (n : Nat) (xs : List Int) : Prop := ∀ k, 0 < k → k < n → gt xs ((k - 1) / 2) ≤ gt xs k
/-- a heap but for element j, which may be too small -/
def UpI (xs : List Int) (j : Nat) : Prop := (∀ k, 0 < k → k < xs.length → k ≠ j → gt xs ((k - 1) / 2) ≤ gt xs k) ∧ (∀ k, 0 < k → k < xs.length → (k - 1) / 2 = j → 0 < j → gt xs ((j - 1) / 2) ≤ gt xs k)
theorem up_step {xs : List Int} {j : Nat} (h : UpI xs j) (hj : j < xs.length) (h0 : 0 < j) (hl : gt xs j < gt xs ((j - 1) / 2)) : UpI (sw xs ((j - 1) / 2) j) ((j - 1) / 2) := by
  obtain ⟨h1, h2⟩ := h
  have hg := sw_get (xs := xs) (i := (j - 1) / 2) (j := j) (by omega) hj
  generalize hi : (j - 1) / 2 = i at *
  have hij : i < j := by omega
  refine ⟨fun k a b c => ?_, fun k a b c d => ?_⟩
  · rw [sw_len] at b
    rw [hg, hg]
    by_cases e1 : k = j
    · subst e1
      rw [hi, if_neg (by omega), if_pos rfl, if_pos rfl]; omega
    · rw [if_neg e1, if_neg c]
      by_cases e2 : (k - 1) / 2 = j
      · rw [if_pos e2]; exact h2 k a b e2 (by omega)
      · rw [if_neg e2]
        have := h1 k a b e1
        by_cases e3 : (k - 1) / 2 = i
        · rw [if_pos e3]; rw [e3] at this; omega
        · rw [if_neg e3]; exact this
  · rw [sw_len] at b
    rw [hg, hg]
    have q := h1 i d (by omega) (by omega)
    rw [if_neg (by omega), if_neg (by omega)]
    by_cases e1 : k = j
    · rw [if_pos e1]; exact q
    · rw [if_neg e1, if_neg (by omega)]
      have := h1 k a b e1
      rw [c] at this; omega
theorem up_zero {xs : List Int} (h : UpI xs 0) : HeapOK xs.length xs := fun k a b => h.1 k a b (by omega)
theorem up_stop {xs : List Int} {j : Nat} (h : UpI xs j) (hl : ¬ gt xs j < gt xs ((j - 1) / 2)) : HeapOK xs.length xs := fun k a b => by
  by_cases e : k = j
  · subst e; omega
  · exact h.1 k a b e
theorem up_start {xs : List Int} {x : Int} (h : HeapOK xs.length xs) : UpI (xs ++ [x]) xs.length := by
  have hg : ∀ k, k < xs.length → gt (xs ++ [x]) k = gt xs k := fun k hk => by simp [gt, List.getD_eq_getElem?_getD, List.getElem?_append_left hk]
  refine ⟨fun k a b c => ?_, fun k a b c d => ?_⟩
  · simp at b
    rw [hg _ (by omega), hg _ (by omega)]
    exact h k a (by omega)
  · simp at b; omega
/-- the first n are a heap but for element i, which may be too large -/
def DnI (n : Nat) (xs : List Int) (i : Nat) : Prop := (∀ k, 0 < k → k < n → (k - 1) / 2 ≠ i → gt xs ((k - 1) / 2) ≤ gt xs k) ∧ (∀ k, 0 < k → k < n → (k - 1) / 2 = i → 0 < i → gt xs ((i - 1) / 2) ≤ gt xs k)
theorem dn_step {xs : List Int} {n i j : Nat} (h : DnI n xs i) (hn : n ≤ xs.length) (hj : j < n) (hj0 : 0 < j) (hp : (j - 1) / 2 = i) (hm : ∀ k, 0 < k → k < n → (k - 1) / 2 = i → gt xs j ≤ gt xs k) (hl : gt xs j < gt xs i) : DnI n (sw xs i j) j := by
  obtain ⟨h1, h2⟩ := h
  have hg := sw_get (xs := xs) (i := i) (j := j) (by omega) (by omega)
  refine ⟨fun k a b c => ?_, fun k a b c d => ?_⟩
  · rw [hg, hg, if_neg c]
    by_cases e1 : k = j
    · subst e1
      rw [hp, if_pos rfl, if_pos rfl]; omega
    · rw [if_neg e1]
      by_cases e2 : k = i
      · subst e2
        rw [if_neg (by omega), if_pos rfl]
        exact h2 j hj0 hj hp a
      · rw [if_neg e2]
        by_cases e3 : (k - 1) / 2 = i
        · rw [if_pos e3]; exact hm k a b e3
        · rw [if_neg e3]; exact h1 k a b e3
  · rw [hg, hg, hp, if_neg (by omega), if_pos rfl, if_neg (by omega), if_neg (by omega)]
    have := h1 k a b (by omega)
    rw [c] at this; exact this
theorem dn_end {xs : List Int} {n i : Nat} (h : DnI n xs i) (hi : n ≤ 2 * i + 1) : HeapOK n xs := fun k a b => h.1 k a b (by omega)
theorem dn_stop {xs : List Int} {n i j : Nat} (h : DnI n xs i) (hm : ∀ k, 0 < k → k < n → (k - 1) / 2 = i → gt xs j ≤ gt xs k) (hl : ¬ gt xs j < gt xs i) : HeapOK n xs := fun k a b => by
  by_cases e : (k - 1) / 2 = i
  · rw [e]; have := hm k a b e; omega
  · exact h.1 k a b e
theorem dn_start {xs : List Int} (h : HeapOK xs.length xs) (h0 : 0 < xs.length) : DnI (xs.length - 1) (sw xs 0 (xs.length - 1)) 0 := by
  have hg := sw_get (xs := xs) (i := 0) (j := xs.length - 1) (by omega) (by omega)
  refine ⟨fun k a b c => ?_, fun k a b c d => by omega⟩
  rw [hg, hg, if_neg (by omega), if_neg c, if_neg (by omega), if_neg (by omega)]
  exact h k a (by omega)
theorem heap_min {xs : List Int} {n : Nat} (h : HeapOK n xs) : ∀ k, k < n → gt xs 0 ≤ gt xs k := by
  intro k
  induction k using Nat.strongRecOn with
  | _ k ih =>
    intro hk
    rcases Nat.eq_zero_or_pos k with e | e
    · subst e; omega
    · have := ih ((k - 1) / 2) (by omega) (by omega)
      have := h k e hk
      omega
theorem heap_take {xs : List Int} {n : Nat} (h : HeapOK n xs) (hn : n ≤ xs.length) : HeapOK (xs.take n).length (xs.take n) := fun k a b => by
  simp at b
  have hg : ∀ q, q < n → gt (xs.take n) q = gt xs q := fun q hq => by simp [gt, List.getD_eq_getElem?_getD, List.getElem?_take, hq]
  rw [hg _ (by omega), hg _ (by omega)]
  exact h k a (by omega)
/-- what is popped -/
theorem pop_perm {xs ys : List Int} (h0 : 0 < xs.length) (hp : ys.Perm (sw xs 0 (xs.length - 1))) (hl : gt ys (xs.length - 1) = gt (sw xs 0 (xs.length - 1)) (xs.length - 1)) : xs.Perm (gt xs 0 :: ys.take (xs.length - 1)) ∧ gt ys (xs.length - 1) = gt xs 0 := by
  have hlen : ys.length = xs.length := by rw [hp.length_eq, sw_len]
  have e : gt ys (xs.length - 1) = gt xs 0 := by rw [hl, sw_get (by omega) (by omega), if_pos rfl]
  refine ⟨?_, e⟩
  have h1 : ys.Perm xs := hp.trans (sw_perm (by omega) (by omega))
  refine h1.symm.trans ?_
  have h2 : ys = ys.take (xs.length - 1) ++ [gt xs 0] := by
    rw [← e, gt_at (by omega), List.take_append_getElem, List.take_of_length_le (by omega)]
  rw [h2, List.take_append_of_le_length (by simp; omega), List.take_take, Nat.min_self]
  exact List.perm_append_comm.trans (List.Perm.refl _)
theorem perm_heap_min {xs : List Int} (h : HeapOK xs.length xs) {x : Int} (hx : x ∈ xs) : gt xs 0 ≤ x := by
  obtain ⟨k, hk, rfl⟩ := List.mem_iff_getElem.1 hx
  rw [← gt_at hk]
  exact heap_min h k hk
end Go.Proofs.Ytemcooggkcneiaa
