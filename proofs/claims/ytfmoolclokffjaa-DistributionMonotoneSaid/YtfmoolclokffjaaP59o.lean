import Derived.Test.YtfmoolclokffjaaP59d
namespace Go.Proofs.Ytfmoolclokffjaa
open Go.Eng
set_option maxRecDepth 100000
set_option maxHeartbeats 1000000
set_option linter.unusedVariables false
set_option linter.unusedSimpArgs false
/-! shares, plain -/
theorem sumI_sum : ∀ l : List Int, sumI l = l.sum
  | [] => rfl
  | x :: l => by rw [sumI, List.sum_cons, sumI_sum l]
def onesL (N : Nat) : List Int := List.replicate N 1
theorem sumN_ones : ∀ N : Nat, sumN (onesL N) = N
  | 0 => rfl
  | N + 1 => by
    have := sumN_ones N
    unfold onesL at *
    rw [List.replicate_succ, sumN, this]; simp; omega
def szs (m N : Nat) : List Int := shA m (onesL N)
theorem szs_len (m N : Nat) : (szs m N).length = N := by unfold szs; rw [sh_len]; simp [onesL]
theorem alloc_ones {m N : Nat} (hm : m ≤ 4096) (hN : 1 ≤ N ∧ N ≤ 64) : allocR (m : Int) (onesL N) = (szs m N, 0) := by
  have h : (allocR (m : Int) (onesL N)).2 = 0 := by
    unfold allocR
    rw [if_neg (by simp [byd]; omega), if_neg (by simp [onesL, wBad]), if_neg (by simp [onesL]; omega), if_neg (by rw [sumN_ones]; omega)]
  have := (alloc_fine _ _ h).2.2.2.2
  rw [if_neg (by omega)] at this
  exact Prod.ext this h
theorem szs_nn {m N : Nat} : ∀ z ∈ szs m N, 0 ≤ z := by
  intro z hz
  obtain ⟨j, hj, rfl⟩ := List.getElem_of_mem hz
  have := sh_nn (m : Int) (onesL N) (j := j) (by rw [szs_len] at hj; simpa [onesL] using hj)
  rw [List.getD_eq_getElem?_getD, List.getElem?_eq_getElem (by exact hj)] at this
  exact this
theorem szs_sum {m N : Nat} (hN : 1 ≤ N) : (szs m N).sum = m := by
  rw [← sumI_sum]
  unfold szs
  rw [sh_sum _ _ (by rw [sumN_ones]; omega)]; simp
/-- the place where share k begins -/
def atK (zs : List Int) (k : Nat) : Nat := ((zs.take k).map Int.toNat).sum
theorem atK_succ {zs : List Int} {k : Nat} (h : k < zs.length) : atK zs (k + 1) = atK zs k + zs[k].toNat := by
  unfold atK; rw [List.take_succ_eq_append_getElem h, List.map_append, List.sum_append]; simp
theorem toNat_sum : ∀ {zs : List Int}, (∀ z ∈ zs, 0 ≤ z) → (((zs.map Int.toNat).sum : Nat) : Int) = zs.sum
  | [], _ => rfl
  | z :: zs, h => by
    have := toNat_sum (zs := zs) (fun y hy => h y (by simp [hy]))
    have := h z (by simp)
    simp only [List.map_cons, List.sum_cons]; omega
theorem atK_le {m N k : Nat} (hN : 1 ≤ N) : atK (szs m N) k ≤ m := by
  have h1 : atK (szs m N) k + (((szs m N).drop k).map Int.toNat).sum = ((szs m N).map Int.toNat).sum := by
    unfold atK; rw [← List.sum_append, ← List.map_append, List.take_append_drop]
  have h2 := toNat_sum (szs_nn (m := m) (N := N))
  rw [szs_sum hN] at h2
  omega
theorem atK_n {m N : Nat} (hN : 1 ≤ N) : atK (szs m N) N = m := by
  have h2 := toNat_sum (szs_nn (m := m) (N := N))
  rw [szs_sum hN] at h2
  unfold atK
  rw [List.take_of_length_le (by rw [szs_len]; exact Nat.le_refl N)]
  omega
def segK (zs r : List Int) (k : Nat) : Int := ((r.drop (atK zs k)).take (zs.getD k 0).toNat).sum
def segL (zs r : List Int) (k : Nat) : List Int := (List.range k).map (segK zs r)
theorem segL_len (zs r : List Int) (k : Nat) : (segL zs r k).length = k := by simp [segL]
theorem segL_succ (zs r : List Int) (k : Nat) : segL zs r (k + 1) = segL zs r k ++ [segK zs r k] := by simp [segL, List.range_succ]
theorem segL_sum {zs r : List Int} : ∀ k, k ≤ zs.length → (segL zs r k).sum = (r.take (atK zs k)).sum
  | 0, _ => by simp [segL, atK]
  | k + 1, h => by
    have ih := segL_sum (zs := zs) (r := r) k (by omega)
    rw [segL_succ, List.sum_append, ih, atK_succ (by omega)]
    have e : zs.getD k 0 = zs[k]'(by omega) := by rw [List.getD_eq_getElem?_getD, List.getElem?_eq_getElem (by omega)]; rfl
    rw [List.take_add, List.sum_append, List.sum_singleton, segK, e]
def sharesR (l : List Int) (n : Int) : List Int × Int :=
  if 4096 < l.length then ([], 4) else if (n < 1 ∨ 64 < n) ∨ okL l = false then ([], 3) else (segL (szs l.length n.toNat) (srt l) n.toNat, 0)
/-- a part of a share: j values taken -/
def parK (zs r : List Int) (k j : Nat) : Int := ((r.drop (atK zs k)).take j).sum
theorem parK_succ {zs r : List Int} {k j : Nat} (h : atK zs k + j < r.length) : parK zs r k (j + 1) = parK zs r k j + r.getD (atK zs k + j) 0 := by
  unfold parK
  rw [List.take_succ_eq_append_getElem (by simp; omega), List.sum_append, List.getElem_drop, List.getD_eq_getElem?_getD, List.getElem?_eq_getElem h]
  simp
theorem parK_bd {zs r : List Int} {k j : Nat} (hr : ∀ v ∈ r, -1000000000000000 ≤ v ∧ v ≤ 1000000000000000) : -(j * 1000000000000000 : Int) ≤ parK zs r k j ∧ parK zs r k j ≤ j * 1000000000000000 := by
  unfold parK
  have key : ∀ l : List Int, (∀ v ∈ l, -1000000000000000 ≤ v ∧ v ≤ 1000000000000000) → -(l.length * 1000000000000000 : Int) ≤ l.sum ∧ l.sum ≤ l.length * 1000000000000000 := by
    intro l
    induction l with
    | nil => intro _; simp
    | cons x l ih =>
      intro h
      have h1 := ih (fun v hv => h v (by simp [hv]))
      have h2 := h x (by simp)
      simp only [List.sum_cons, List.length_cons]; omega
  have h1 := key ((r.drop (atK zs k)).take j) (fun v hv => hr v (List.mem_of_mem_drop (List.mem_of_mem_take hv)))
  have h2 : ((r.drop (atK zs k)).take j).length ≤ j := by simp; omega
  omega
theorem srt_ok {l : List Int} (h : okL l = true) : ∀ v ∈ srt l, -1000000000000000 ≤ v ∧ v ≤ 1000000000000000 := fun v hv => okL_iff.1 h v ((srt_perm l).mem_iff.1 hv)
/-- the row of sums under way: share k has taken j values -/
def rowS (zs r : List Int) (k : Nat) (p : Int) (N : Nat) : List Int := segL zs r k ++ p :: List.replicate (N - k - 1) 0
theorem rowS_len {zs r : List Int} {k N : Nat} {p : Int} (h : k < N) : (rowS zs r k p N).length = N := by simp [rowS, segL_len]; omega
theorem rowS_at {zs r : List Int} {k N : Nat} {p : Int} : (rowS zs r k p N)[k]? = some p := by
  unfold rowS
  rw [List.getElem?_append_right (by rw [segL_len]; exact Nat.le_refl k), segL_len, Nat.sub_self]; rfl
theorem rowS_set {zs r : List Int} {k N : Nat} {p q : Int} : (rowS zs r k p N).set k q = rowS zs r k q N := by
  unfold rowS
  rw [List.set_append_right _ _ (by rw [segL_len]; exact Nat.le_refl k), segL_len, Nat.sub_self]; rfl
def fillS (zs r : List Int) (k N : Nat) : List Int := segL zs r k ++ List.replicate (N - k) 0
theorem fillS_row {zs r : List Int} {k N : Nat} (h : k < N) : fillS zs r k N = rowS zs r k 0 N := by
  unfold fillS rowS
  obtain ⟨d, hd⟩ : ∃ d, N - k = d + 1 := ⟨N - k - 1, by omega⟩
  rw [hd, List.replicate_succ, Nat.add_sub_cancel]
theorem rowS_fill {zs r : List Int} {k N : Nat} (h : k < N) : rowS zs r k (segK zs r k) N = fillS zs r (k + 1) N := by
  unfold fillS rowS
  rw [segL_succ, List.append_assoc, show N - (k + 1) = N - k - 1 by omega]; rfl
theorem fillS_len {zs r : List Int} {k N : Nat} (h : k ≤ N) : (fillS zs r k N).length = N := by simp [fillS, segL_len]; omega
theorem fillS_0 (zs r : List Int) (N : Nat) : fillS zs r 0 N = List.replicate N 0 := by simp [fillS, segL]
theorem fillS_n (zs r : List Int) (N : Nat) : fillS zs r N N = segL zs r N := by simp [fillS]
/-- the weights under way -/
def fillO (i N : Nat) : List Int := List.replicate i 1 ++ List.replicate (N - i) 0
theorem fillO_len {i N : Nat} (h : i ≤ N) : (fillO i N).length = N := by simp [fillO]; omega
theorem fillO_set {i N : Nat} (h : i < N) : (fillO i N).set i 1 = fillO (i + 1) N := by
  unfold fillO
  obtain ⟨d, hd⟩ : ∃ d, N - i = d + 1 := ⟨N - i - 1, by omega⟩
  rw [List.set_append_right _ _ (by simp), hd, show N - (i + 1) = d by omega, List.length_replicate, Nat.sub_self, List.replicate_succ (n := d), List.set_cons_zero, List.replicate_succ' (n := i), List.append_assoc]
  rfl
theorem fillO_at {i N : Nat} (h : i < N) : (fillO i N)[i]? = some 0 := by
  unfold fillO
  rw [List.getElem?_append_right (by simp), List.getElem?_replicate, if_pos (by simp; omega)]
theorem fillO_0 (N : Nat) : fillO 0 N = List.replicate N 0 := by simp [fillO]
theorem fillO_n (N : Nat) : fillO N N = onesL N := by simp [fillO, onesL]
theorem onesL_succ (N : Nat) : onesL (N + 1) = onesL N ++ [1] := by unfold onesL; rw [List.replicate_succ']
theorem shares_tot {l : List Int} {n : Int} (h : (sharesR l n).2 = 0) : (sharesR l n).1.sum = l.sum ∧ ((sharesR l n).1.length : Int) = n := by
  unfold sharesR at h ⊢
  by_cases h1 : 4096 < l.length
  · rw [if_pos h1] at h; simp at h
  · rw [if_neg h1] at h ⊢
    by_cases h2 : (n < 1 ∨ 64 < n) ∨ okL l = false
    · rw [if_pos h2] at h; simp at h
    · rw [if_neg h2]
      simp only
      rw [segL_sum _ (by rw [szs_len]; exact Nat.le_refl _), atK_n (by omega), List.take_of_length_le (by rw [srt_len]; exact Nat.le_refl _), segL_len]
      exact ⟨sum_perm (srt_perm l), by omega⟩
theorem shares_perm {l m : List Int} {n : Int} (h : l.Perm m) : sharesR l n = sharesR m n := by
  unfold sharesR; rw [h.length_eq, okL_perm h, srt_of_perm h]
end Go.Proofs.Ytfmoolclokffjaa
